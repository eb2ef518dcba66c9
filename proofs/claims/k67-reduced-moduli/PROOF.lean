import PyProof.Rows.All
import Wide.All
import OpenK.AllK
import Wide.FinOn
import HandS.ForMost
import PySem.Challenge.RW_turnedties_k67_whole_reduced_moduli_keep
import KE.KStateDown
import Lean
import HandS.WordsExc
import HandS.Defaults
import HandS.Head0
import HandS.Head1
import HandS.Head2
import HandS.HeadEnd
import HandS.HeadHook1
import HandS.HeadHook2
import HandS.MakeKwOnly
import HandS.IsInst
import HandS.Conv
import HandS.Strs
import HandS.SortInts
import HandS.DictComp
import HandS.Zip
import HandS.Wide
import HandS.Codes
import HandS.Walk
import HandS.More
set_option Elab.async false
set_option maxRecDepth 100000
/-! The text by places. -/
namespace Tt
open PySem L2
def top (i : Nat) : Stmt := PySem.Challenge.pw_turnedties_k67_whole_reduced_moduli_keep.main.body.getD i (.Pass ⟨0, 0, 0, 0⟩)
abbrev s_reduced_number : Stmt := top 19
abbrev s_forest_of : Stmt := top 20
abbrev s_links_of : Stmt := top 21
abbrev s_walk_paths : Stmt := top 22
abbrev s_components_of : Stmt := top 23
abbrev s_is_integer : Stmt := top 29
abbrev s_is_within : Stmt := top 30
abbrev s_is_edge : Stmt := top 31
abbrev s_is_modulus : Stmt := top 32
abbrev s_check_edges : Stmt := top 33
abbrev s_is_step : Stmt := top 36
abbrev s_step_ends : Stmt := top 37
abbrev s_is_walk : Stmt := top 38
abbrev s_residue : Stmt := top 42
abbrev s_is_residue : Stmt := top 43
abbrev s_are_residues : Stmt := top 44
abbrev s_is_gains : Stmt := top 45
abbrev s_is_potential : Stmt := top 46
abbrev s_check_gains : Stmt := top 47
abbrev s_check_potential : Stmt := top 48
abbrev s_check_fixed : Stmt := top 49
abbrev s_walk_sum : Stmt := top 50
abbrev s_switched : Stmt := top 52
abbrev s_difference_rows : Stmt := top 54
abbrev s_system_of : Stmt := top 55
abbrev s_transform_equivalence : Stmt := top 56
abbrev s_leads : Stmt := top 58
abbrev s_is_transform : Stmt := top 60
abbrev s_cycle_sums_equivalence : Stmt := top 61
abbrev s_copied : Stmt := top 65
abbrev s_law_pool : Stmt := top 69
abbrev s_law_take : Stmt := top 70
abbrev s_law_links : Stmt := top 71
abbrev s_law_low : Stmt := top 72
abbrev s_law_number : Stmt := top 73
abbrev s_law_numbers : Stmt := top 74
abbrev s_law_put : Stmt := top 75
abbrev s_law : Stmt := top 76
abbrev s_System_init : Stmt := inClass (top 24) 0
abbrev s_System_path : Stmt := inClass (top 24) 1
abbrev s_System_levels : Stmt := inClass (top 24) 2
abbrev s_System_bad_cycle : Stmt := inClass (top 24) 3
abbrev s_System_solved : Stmt := inClass (top 24) 4
abbrev s_Web_init : Stmt := inClass (top 34) 0
abbrev s_Web_size : Stmt := inClass (top 34) 1
abbrev s_Web_modulus : Stmt := inClass (top 34) 2
abbrev s_Web_edges : Stmt := inClass (top 34) 3
abbrev s_Web_edge : Stmt := inClass (top 34) 4
abbrev s_Web_cycles : Stmt := inClass (top 34) 8
abbrev s_Web_len : Stmt := inClass (top 34) 9
abbrev s_Web_eq : Stmt := inClass (top 34) 10
abbrev s_Board_init : Stmt := inClass (top 67) 0
abbrev s_Board_do_reduce : Stmt := inClass (top 67) 11
abbrev s_Board_perform : Stmt := inClass (top 67) 12
abbrev s_Board_state : Stmt := inClass (top 67) 13
abbrev s_Board_act : Stmt := inClass (top 67) 14
abbrev s_Board_reduce : Stmt := inClass (top 67) 23
abbrev s_Board_undo : Stmt := inClass (top 67) 25
abbrev s_Board_web : Stmt := inClass (top 67) 26
abbrev s_Board_gains : Stmt := inClass (top 67) 27
abbrev s_Board_log : Stmt := inClass (top 67) 29
abbrev s_Board_cycle_sums : Stmt := inClass (top 67) 30
abbrev s_Board_transform : Stmt := inClass (top 67) 32
abbrev s_Board_twin : Stmt := inClass (top 67) 33
end Tt
set_option Elab.async false
set_option linter.all false
set_option maxRecDepth 100000
set_option maxHeartbeats 0
/-! The head: the top by one kernel run, its facts by names. -/
namespace Tt
open PySem PySem.Spec PyProof.Rows L2 He
/-- a keyword-only default of the def at f, if it is an object -/
def kwdAt (f : Str × Option Str) (x : Str) (K : PySem.W.Frag) : Addr := match K.lookup (fAd K f) with
  | some ⟨_, _, .func fd, _⟩ => (match fd.kwdefaults with
    | .ref D => (match PySem.W.nsIn K D x with
      | some (some (.ref a)) => a
      | _ => 0)
    | _ => 0)
  | _ => 0
def d_reduced_number : He.DefD := ⟨("reduced_number", none), "reduced_number", "reduced_number", defArgs s_reduced_number, defBody s_reduced_number, defScope s_reduced_number, [], []⟩
def d_forest_of : He.DefD := ⟨("forest_of", none), "forest_of", "forest_of", defArgs s_forest_of, defBody s_forest_of, defScope s_forest_of, [], []⟩
def d_links_of : He.DefD := ⟨("links_of", none), "links_of", "links_of", defArgs s_links_of, defBody s_links_of, defScope s_links_of, [], []⟩
def d_walk_paths : He.DefD := ⟨("walk_paths", none), "walk_paths", "walk_paths", defArgs s_walk_paths, defBody s_walk_paths, defScope s_walk_paths, [], []⟩
def d_components_of : He.DefD := ⟨("components_of", none), "components_of", "components_of", defArgs s_components_of, defBody s_components_of, defScope s_components_of, [], []⟩
def d_is_integer : He.DefD := ⟨("is_integer", none), "is_integer", "is_integer", defArgs s_is_integer, defBody s_is_integer, defScope s_is_integer, [], []⟩
def d_is_within : He.DefD := ⟨("is_within", none), "is_within", "is_within", defArgs s_is_within, defBody s_is_within, defScope s_is_within, [], []⟩
def d_is_edge : He.DefD := ⟨("is_edge", none), "is_edge", "is_edge", defArgs s_is_edge, defBody s_is_edge, defScope s_is_edge, [], []⟩
def d_is_modulus : He.DefD := ⟨("is_modulus", none), "is_modulus", "is_modulus", defArgs s_is_modulus, defBody s_is_modulus, defScope s_is_modulus, [], []⟩
def d_check_edges : He.DefD := ⟨("check_edges", none), "check_edges", "check_edges", defArgs s_check_edges, defBody s_check_edges, defScope s_check_edges, [], []⟩
def d_is_step : He.DefD := ⟨("is_step", none), "is_step", "is_step", defArgs s_is_step, defBody s_is_step, defScope s_is_step, [], []⟩
def d_step_ends : He.DefD := ⟨("step_ends", none), "step_ends", "step_ends", defArgs s_step_ends, defBody s_step_ends, defScope s_step_ends, [], []⟩
def d_is_walk : He.DefD := ⟨("is_walk", none), "is_walk", "is_walk", defArgs s_is_walk, defBody s_is_walk, defScope s_is_walk, [], []⟩
def d_residue : He.DefD := ⟨("residue", none), "residue", "residue", defArgs s_residue, defBody s_residue, defScope s_residue, [], []⟩
def d_is_residue : He.DefD := ⟨("is_residue", none), "is_residue", "is_residue", defArgs s_is_residue, defBody s_is_residue, defScope s_is_residue, [], []⟩
def d_are_residues : He.DefD := ⟨("are_residues", none), "are_residues", "are_residues", defArgs s_are_residues, defBody s_are_residues, defScope s_are_residues, [], []⟩
def d_is_gains : He.DefD := ⟨("is_gains", none), "is_gains", "is_gains", defArgs s_is_gains, defBody s_is_gains, defScope s_is_gains, [], []⟩
def d_is_potential : He.DefD := ⟨("is_potential", none), "is_potential", "is_potential", defArgs s_is_potential, defBody s_is_potential, defScope s_is_potential, [], []⟩
def d_check_gains : He.DefD := ⟨("check_gains", none), "check_gains", "check_gains", defArgs s_check_gains, defBody s_check_gains, defScope s_check_gains, [], []⟩
def d_check_potential : He.DefD := ⟨("check_potential", none), "check_potential", "check_potential", defArgs s_check_potential, defBody s_check_potential, defScope s_check_potential, [], []⟩
def d_check_fixed : He.DefD := ⟨("check_fixed", none), "check_fixed", "check_fixed", defArgs s_check_fixed, defBody s_check_fixed, defScope s_check_fixed, [], []⟩
def d_walk_sum : He.DefD := ⟨("walk_sum", none), "walk_sum", "walk_sum", defArgs s_walk_sum, defBody s_walk_sum, defScope s_walk_sum, [], []⟩
def d_switched : He.DefD := ⟨("switched", none), "switched", "switched", defArgs s_switched, defBody s_switched, defScope s_switched, [], []⟩
def d_difference_rows : He.DefD := ⟨("difference_rows", none), "difference_rows", "difference_rows", defArgs s_difference_rows, defBody s_difference_rows, defScope s_difference_rows, [], []⟩
def d_system_of : He.DefD := ⟨("system_of", none), "system_of", "system_of", defArgs s_system_of, defBody s_system_of, defScope s_system_of, [], []⟩
def d_transform_equivalence : He.DefD := ⟨("transform_equivalence", none), "transform", "transform", defArgs s_transform_equivalence, defBody s_transform_equivalence, defScope s_transform_equivalence, [], [("fixed", .adr (kwdAt ("transform_equivalence", none) "fixed"))]⟩
def d_leads : He.DefD := ⟨("leads", none), "leads", "leads", defArgs s_leads, defBody s_leads, defScope s_leads, [], []⟩
def d_is_transform : He.DefD := ⟨("is_transform", none), "is_transform", "is_transform", defArgs s_is_transform, defBody s_is_transform, defScope s_is_transform, [], [("fixed", .adr (kwdAt ("is_transform", none) "fixed"))]⟩
def d_cycle_sums_equivalence : He.DefD := ⟨("cycle_sums_equivalence", none), "cycle_sums", "cycle_sums", defArgs s_cycle_sums_equivalence, defBody s_cycle_sums_equivalence, defScope s_cycle_sums_equivalence, [], []⟩
def d_copied : He.DefD := ⟨("copied", none), "copied", "copied", defArgs s_copied, defBody s_copied, defScope s_copied, [], []⟩
def d_law_pool : He.DefD := ⟨("_law_pool", none), "_law_pool", "_law_pool", defArgs s_law_pool, defBody s_law_pool, defScope s_law_pool, [], []⟩
def d_law_take : He.DefD := ⟨("_law_take", none), "_law_take", "_law_take", defArgs s_law_take, defBody s_law_take, defScope s_law_take, [], []⟩
def d_law_links : He.DefD := ⟨("_law_links", none), "_law_links", "_law_links", defArgs s_law_links, defBody s_law_links, defScope s_law_links, [], []⟩
def d_law_low : He.DefD := ⟨("_law_low", none), "_law_low", "_law_low", defArgs s_law_low, defBody s_law_low, defScope s_law_low, [], []⟩
def d_law_number : He.DefD := ⟨("_law_number", none), "_law_number", "_law_number", defArgs s_law_number, defBody s_law_number, defScope s_law_number, [], []⟩
def d_law_numbers : He.DefD := ⟨("_law_numbers", none), "_law_numbers", "_law_numbers", defArgs s_law_numbers, defBody s_law_numbers, defScope s_law_numbers, [], []⟩
def d_law_put : He.DefD := ⟨("_law_put", none), "_law_put", "_law_put", defArgs s_law_put, defBody s_law_put, defScope s_law_put, [], []⟩
def d_law : He.DefD := ⟨("law", none), "law", "law", defArgs s_law, defBody s_law, defScope s_law, [], []⟩
def d_System_init : He.DefD := ⟨("System", some "__init__"), "__init__", "System.__init__", defArgs s_System_init, defBody s_System_init, defScope s_System_init, [], []⟩
def d_System_path : He.DefD := ⟨("System", some "path"), "path", "System.path", defArgs s_System_path, defBody s_System_path, defScope s_System_path, [], []⟩
def d_System_levels : He.DefD := ⟨("System", some "levels"), "levels", "System.levels", defArgs s_System_levels, defBody s_System_levels, defScope s_System_levels, [], []⟩
def d_System_bad_cycle : He.DefD := ⟨("System", some "bad_cycle"), "bad_cycle", "System.bad_cycle", defArgs s_System_bad_cycle, defBody s_System_bad_cycle, defScope s_System_bad_cycle, [], []⟩
def d_System_solved : He.DefD := ⟨("System", some "solved"), "solved", "System.solved", defArgs s_System_solved, defBody s_System_solved, defScope s_System_solved, [], []⟩
def d_Web_init : He.DefD := ⟨("Web", some "__init__"), "__init__", "Web.__init__", defArgs s_Web_init, defBody s_Web_init, defScope s_Web_init, [.adr (dflAt ("Web", some "__init__") 0)], [("modulus", .int 0)]⟩
def d_Web_size : He.DefD := ⟨("Web", some "size"), "size", "Web.size", defArgs s_Web_size, defBody s_Web_size, defScope s_Web_size, [], []⟩
def d_Web_modulus : He.DefD := ⟨("Web", some "modulus"), "modulus", "Web.modulus", defArgs s_Web_modulus, defBody s_Web_modulus, defScope s_Web_modulus, [], []⟩
def d_Web_edges : He.DefD := ⟨("Web", some "edges"), "edges", "Web.edges", defArgs s_Web_edges, defBody s_Web_edges, defScope s_Web_edges, [], []⟩
def d_Web_edge : He.DefD := ⟨("Web", some "edge"), "edge", "Web.edge", defArgs s_Web_edge, defBody s_Web_edge, defScope s_Web_edge, [], []⟩
def d_Web_cycles : He.DefD := ⟨("Web", some "cycles"), "cycles", "Web.cycles", defArgs s_Web_cycles, defBody s_Web_cycles, defScope s_Web_cycles, [], []⟩
def d_Web_len : He.DefD := ⟨("Web", some "__len__"), "__len__", "Web.__len__", defArgs s_Web_len, defBody s_Web_len, defScope s_Web_len, [], []⟩
def d_Web_eq : He.DefD := ⟨("Web", some "__eq__"), "__eq__", "Web.__eq__", defArgs s_Web_eq, defBody s_Web_eq, defScope s_Web_eq, [], []⟩
def d_Board_init : He.DefD := ⟨("Board", some "__init__"), "__init__", "Board.__init__", defArgs s_Board_init, defBody s_Board_init, defScope s_Board_init, [], [("fixed", .adr (kwdAt ("Board", some "__init__") "fixed"))]⟩
def d_Board_do_reduce : He.DefD := ⟨("Board", some "do_reduce"), "do_reduce", "Board.do_reduce", defArgs s_Board_do_reduce, defBody s_Board_do_reduce, defScope s_Board_do_reduce, [], []⟩
def d_Board_perform : He.DefD := ⟨("Board", some "perform"), "perform", "Board.perform", defArgs s_Board_perform, defBody s_Board_perform, defScope s_Board_perform, [], []⟩
def d_Board_state : He.DefD := ⟨("Board", some "state"), "state", "Board.state", defArgs s_Board_state, defBody s_Board_state, defScope s_Board_state, [], []⟩
def d_Board_act : He.DefD := ⟨("Board", some "act"), "act", "Board.act", defArgs s_Board_act, defBody s_Board_act, defScope s_Board_act, [], []⟩
def d_Board_reduce : He.DefD := ⟨("Board", some "reduce"), "reduce", "Board.reduce", defArgs s_Board_reduce, defBody s_Board_reduce, defScope s_Board_reduce, [], []⟩
def d_Board_undo : He.DefD := ⟨("Board", some "undo"), "undo", "Board.undo", defArgs s_Board_undo, defBody s_Board_undo, defScope s_Board_undo, [], []⟩
def d_Board_web : He.DefD := ⟨("Board", some "web"), "web", "Board.web", defArgs s_Board_web, defBody s_Board_web, defScope s_Board_web, [], []⟩
def d_Board_gains : He.DefD := ⟨("Board", some "gains"), "gains", "Board.gains", defArgs s_Board_gains, defBody s_Board_gains, defScope s_Board_gains, [], []⟩
def d_Board_log : He.DefD := ⟨("Board", some "log"), "log", "Board.log", defArgs s_Board_log, defBody s_Board_log, defScope s_Board_log, [], []⟩
def d_Board_cycle_sums : He.DefD := ⟨("Board", some "cycle_sums"), "cycle_sums", "Board.cycle_sums", defArgs s_Board_cycle_sums, defBody s_Board_cycle_sums, defScope s_Board_cycle_sums, [], []⟩
def d_Board_transform : He.DefD := ⟨("Board", some "transform"), "transform", "Board.transform", defArgs s_Board_transform, defBody s_Board_transform, defScope s_Board_transform, [], []⟩
def d_Board_twin : He.DefD := ⟨("Board", some "twin"), "twin", "Board.twin", defArgs s_Board_twin, defBody s_Board_twin, defScope s_Board_twin, [], []⟩
def fn : List He.DefD := [d_reduced_number, d_forest_of, d_links_of, d_walk_paths, d_components_of, d_is_integer, d_is_within, d_is_edge, d_is_modulus, d_check_edges, d_is_step, d_step_ends, d_is_walk, d_residue, d_is_residue, d_are_residues, d_is_gains, d_is_potential, d_check_gains, d_check_potential, d_check_fixed, d_walk_sum, d_switched, d_difference_rows, d_system_of, d_transform_equivalence, d_leads, d_is_transform, d_cycle_sums_equivalence, d_copied, d_law_pool, d_law_take, d_law_links, d_law_low, d_law_number, d_law_numbers, d_law_put, d_law, d_System_init, d_System_path, d_System_levels, d_System_bad_cycle, d_System_solved, d_Web_init, d_Web_size, d_Web_modulus, d_Web_edges, d_Web_edge, d_Web_cycles, d_Web_len, d_Web_eq, d_Board_init, d_Board_do_reduce, d_Board_perform, d_Board_state, d_Board_act, d_Board_reduce, d_Board_undo, d_Board_web, d_Board_gains, d_Board_log, d_Board_cycle_sums, d_Board_transform, d_Board_twin]
def fa : List He.Fa := [.glo "reduced_number", .glo "forest_of", .glo "links_of", .glo "walk_paths", .glo "components_of", .glo "is_integer", .glo "is_within", .glo "is_edge", .glo "is_modulus", .glo "check_edges", .glo "is_step", .glo "step_ends", .glo "is_walk", .glo "residue", .glo "is_residue", .glo "are_residues", .glo "is_gains", .glo "is_potential", .glo "check_gains", .glo "check_potential", .glo "check_fixed", .glo "walk_sum", .glo "switched", .glo "difference_rows", .glo "system_of", .glo "transform_equivalence", .glo "leads", .glo "is_transform", .glo "cycle_sums_equivalence", .glo "copied", .glo "_law_pool", .glo "_law_take", .glo "_law_links", .glo "_law_low", .glo "_law_number", .glo "_law_numbers", .glo "_law_put", .glo "law", .glo "System", .glo "Web", .glo "Board", .free "range", .free "list", .free "enumerate", .free "len", .free "sorted", .free "sum", .free "isinstance", .free "int", .free "bool", .free "tuple", .free "str", .free "all", .free "set", .free "zip", .free "max", .free "min", .int "MOST_NODES" 30, .int "MOST_EDGES" 60, .int "MOST_MODULUS" 60, .cls "System", .noat "System" "own_modulus", .noat "System" "rows", .noat "System" "links", .noat "System" "groups", .meth "System" "__init__", .meth "System" "path", .meth "System" "levels", .meth "System" "bad_cycle", .meth "System" "solved", .mkr "System", .cls "Web", .noat "Web" "own_size", .noat "Web" "own_edges", .noat "Web" "own_modulus", .noat "Web" "own_forest", .noat "Web" "links", .meth "Web" "__init__", .meth "Web" "size", .meth "Web" "modulus", .meth "Web" "edges", .meth "Web" "edge", .meth "Web" "cycles", .meth "Web" "__len__", .meth "Web" "__eq__", .mkr "Web", .cls "Board", .noat "Board" "own_web", .noat "Board" "own_gains", .noat "Board" "own_fixed", .noat "Board" "own_log", .noat "Board" "past", .meth "Board" "__init__", .meth "Board" "do_reduce", .meth "Board" "perform", .meth "Board" "state", .meth "Board" "act", .meth "Board" "reduce", .meth "Board" "undo", .meth "Board" "web", .meth "Board" "gains", .meth "Board" "log", .meth "Board" "cycle_sums", .meth "Board" "transform", .meth "Board" "twin", .mkr "Board"]
def loose0 : List PySem.Str := ["_wall", "WebError", "InvalidModulus", "InvalidSize", "InvalidEdge", "InvalidNode", "InvalidWalk", "InvalidAmount", "InvalidGains", "InvalidPotential", "InvalidFixed", "InvalidOperation", "NoEdge", "Fixed", "NotFixed", "TooMany", "NothingToUndo", "reduced_number", "forest_of", "links_of", "walk_paths", "components_of", "System", "MOST_NODES", "MOST_EDGES", "MOST_MODULUS", "is_integer", "is_within", "is_edge", "is_modulus"]
def loose1 : List PySem.Str := ["check_edges", "Web", "check_node", "is_step", "step_ends", "is_walk", "ends_of", "is_closed", "residue", "is_residue", "are_residues", "is_gains", "is_potential", "check_gains", "check_potential", "check_fixed", "walk_sum", "switched", "difference_rows", "system_of", "transform", "transform_equivalence", "leads", "excludes", "is_transform", "cycle_sums", "cycle_sums_equivalence", "COUNTS", "copied", "is_operation"]
def loose2 : List PySem.Str := ["Board", "_law_pool", "_law_take", "_law_links", "_law_low", "_law_number", "_law_numbers", "_law_put"]
def loose : List PySem.Str := loose0 ++ loose1 ++ loose2
/-- the tuple () that stands behind a keyword-only default -/
def emptyT (K : PySem.W.Frag) (a : Addr) : Bool := match K.lookup a with
  | some ⟨.type c, _, .seq its _, _⟩ => decide (c = "tuple") && its.isEmpty
  | _ => false
def more (K : PySem.W.Frag) : Bool := emptyT K (kwdAt ("Board", some "__init__") "fixed" K) && emptyT K (kwdAt ("transform_equivalence", none) "fixed" K) && emptyT K (kwdAt ("is_transform", none) "fixed" K)
/-- the globals that are needed; what a function, a class names; the addresses of the written part -/
def needed1 : List PySem.Str := ["reduced_number", "forest_of", "links_of", "walk_paths", "components_of", "is_integer", "is_within", "is_edge", "is_modulus", "check_edges", "is_step", "step_ends", "is_walk", "residue", "is_residue", "are_residues", "is_gains", "is_potential", "check_gains", "check_potential"]
def needed2 : List PySem.Str := ["check_fixed", "walk_sum", "switched", "difference_rows", "system_of", "transform_equivalence", "leads", "is_transform", "cycle_sums_equivalence", "copied", "_law_pool", "_law_take", "_law_links", "_law_low", "_law_number", "_law_numbers", "_law_put", "law", "System", "Web", "Board"]
def needed : List PySem.Str := needed1 ++ needed2
def own_methods : List PySem.Str := ["__eq__", "__init__", "__len__", "act", "bad_cycle", "cycle_sums", "cycles", "do_reduce", "edge", "edges", "fixed", "gains", "levels", "log", "modulus", "path", "perform", "reduce", "size", "solved", "state", "transform", "twin", "undo", "web"]
def valsOf (keep : PySem.Str → Bool) (o : Obj) : List Addr := match o.data with
  | .dict es _ => es.toList.filterMap fun e => match e.key with
    | .str x _ => (match keep x with
      | true => (match e.val with
        | .ref a => some a
        | _ => none)
      | false => none)
    | _ => none
  | .seq its _ => its.toList.flatMap refV
  | _ => []
def partsOf (o : Obj) : List Addr := match o.data with
  | .func fd => refV fd.code ++ (refV fd.defaults ++ refV fd.kwdefaults)
  | .cls cd => [cd.ns]
  | _ => []
def nxt (f : Obj → List Addr) (g : Addr → Option Obj) (as : List Addr) : List Addr := as.flatMap fun a => match g a with
  | some o => f o
  | none => []
def asM3 (g : Addr → Option Obj) (l1 l2 l3 : List Addr) (l4 : List Addr) (l5 : List Addr) : List Addr := mainGlobals :: (l1 ++ (l2 ++ (l3 ++ (l4 ++ l5))))
def asM2 (g : Addr → Option Obj) (l1 l2 l3 : List Addr) : List Addr := (fun l4 => asM3 g l1 l2 l3 l4 (nxt (valsOf fun _ => true) g l4)) (nxt partsOf g l3)
def asM1 (g : Addr → Option Obj) (l1 l2 : List Addr) : List Addr := asM2 g l1 l2 (nxt (valsOf fun x => own_methods.contains x) g l2)
def asM (g : Addr → Option Obj) : List Addr := (fun l1 => asM1 g l1 (nxt partsOf g l1)) (nxt (valsOf fun x => needed.contains x) g [mainGlobals])
def hookM : PySem.W.Hook where
  α := AlD × Bool
  obs := fun s => (obsD fa fn (frG s.heap.get? (asM s.heap.get?)), more (frG s.heap.get? (asM s.heap.get?)))
  val := fun _ => (valD fn, true)
  says := fun _ h => ∃ K : PySem.W.Frag, K.In h ∧ SaysD fa fn K ∧ more K = true
  of := fun _ _ e => ⟨_, frG_in, congrArg Prod.fst e, congrArg Prod.snd e⟩
  keeps := fun _ _ _ ⟨K, hK, c⟩ k => ⟨K, PySem.W.Frag.In.keeps hK k, c⟩
abbrev R : PySem.W.OpenRow := PySem.W.OpenLaw.row PySem.Challenge.rw_turnedties_k67_whole_reduced_moduli_keep
abbrev hk : PySem.W.Hook := hookM
def obF (g : Addr → Option Obj) (K : PySem.W.Frag) : AlD × Bool := (obsD fa fn K, more K)
def ob (s : PySem.W.SharedT) : AlD × Bool := obF (HandSHeadRun.getT s) (frG (HandSHeadRun.getT s) (asM (HandSHeadRun.getT s)))
theorem ob_eq (s : PySem.W.SharedT) : ob s = hk.obs s.abs := by
  have e : HandSHeadRun.getT s = s.abs.heap.get? := funext (HandSHeadRun.getT_eq s)
  show obF (HandSHeadRun.getT s) (frG (HandSHeadRun.getT s) (asM (HandSHeadRun.getT s))) = _
  rw [e]
  rfl
end Tt
set_option Elab.async false
set_option linter.all false
set_option maxRecDepth 100000
set_option maxHeartbeats 0
namespace Tt
open PySem PySem.Spec PyProof.Rows L2 He
theorem runF (w : World) : HandSHeadRun.RunEq R (PySem.W.view R.prog [76]) hk ob 9000 loose (w.withFollow "special-get-raises" false) := by
  intro os
  kernel_rfl
theorem runT (w : World) : HandSHeadRun.RunEq R (PySem.W.view R.prog [76]) hk ob 9000 loose (w.withFollow "special-get-raises" true) := by
  intro os
  kernel_rfl
theorem run (w : World) : HandSHeadRun.RunEq R (PySem.W.view R.prog [76]) hk ob 9000 loose w :=
  PySem.W.byRow2 "special-get-raises" (P := fun w => HandSHeadRun.RunEq R (PySem.W.view R.prog [76]) hk ob 9000 loose w) runF runT w
end Tt
set_option Elab.async false
set_option linter.all false
set_option maxRecDepth 100000
set_option maxHeartbeats 0
/-! What the walk asks of the text as the top has left it. -/
namespace Tt
open PySem PySem.Spec PyProof.Rows L2 He
structure Tx (K : PySem.W.Frag) (mg : Str → Option Value) : Prop where
  g_reduced_number : mg "reduced_number" = some (.ref (ga K "reduced_number"))
  g_forest_of : mg "forest_of" = some (.ref (ga K "forest_of"))
  g_links_of : mg "links_of" = some (.ref (ga K "links_of"))
  g_walk_paths : mg "walk_paths" = some (.ref (ga K "walk_paths"))
  g_components_of : mg "components_of" = some (.ref (ga K "components_of"))
  g_is_integer : mg "is_integer" = some (.ref (ga K "is_integer"))
  g_is_within : mg "is_within" = some (.ref (ga K "is_within"))
  g_is_edge : mg "is_edge" = some (.ref (ga K "is_edge"))
  g_is_modulus : mg "is_modulus" = some (.ref (ga K "is_modulus"))
  g_check_edges : mg "check_edges" = some (.ref (ga K "check_edges"))
  g_is_step : mg "is_step" = some (.ref (ga K "is_step"))
  g_step_ends : mg "step_ends" = some (.ref (ga K "step_ends"))
  g_is_walk : mg "is_walk" = some (.ref (ga K "is_walk"))
  g_residue : mg "residue" = some (.ref (ga K "residue"))
  g_is_residue : mg "is_residue" = some (.ref (ga K "is_residue"))
  g_are_residues : mg "are_residues" = some (.ref (ga K "are_residues"))
  g_is_gains : mg "is_gains" = some (.ref (ga K "is_gains"))
  g_is_potential : mg "is_potential" = some (.ref (ga K "is_potential"))
  g_check_gains : mg "check_gains" = some (.ref (ga K "check_gains"))
  g_check_potential : mg "check_potential" = some (.ref (ga K "check_potential"))
  g_check_fixed : mg "check_fixed" = some (.ref (ga K "check_fixed"))
  g_walk_sum : mg "walk_sum" = some (.ref (ga K "walk_sum"))
  g_switched : mg "switched" = some (.ref (ga K "switched"))
  g_difference_rows : mg "difference_rows" = some (.ref (ga K "difference_rows"))
  g_system_of : mg "system_of" = some (.ref (ga K "system_of"))
  g_transform_equivalence : mg "transform_equivalence" = some (.ref (ga K "transform_equivalence"))
  g_leads : mg "leads" = some (.ref (ga K "leads"))
  g_is_transform : mg "is_transform" = some (.ref (ga K "is_transform"))
  g_cycle_sums_equivalence : mg "cycle_sums_equivalence" = some (.ref (ga K "cycle_sums_equivalence"))
  g_copied : mg "copied" = some (.ref (ga K "copied"))
  g_law_pool : mg "_law_pool" = some (.ref (ga K "_law_pool"))
  g_law_take : mg "_law_take" = some (.ref (ga K "_law_take"))
  g_law_links : mg "_law_links" = some (.ref (ga K "_law_links"))
  g_law_low : mg "_law_low" = some (.ref (ga K "_law_low"))
  g_law_number : mg "_law_number" = some (.ref (ga K "_law_number"))
  g_law_numbers : mg "_law_numbers" = some (.ref (ga K "_law_numbers"))
  g_law_put : mg "_law_put" = some (.ref (ga K "_law_put"))
  g_law : mg "law" = some (.ref (ga K "law"))
  g_System : mg "System" = some (.ref (ga K "System"))
  g_Web : mg "Web" = some (.ref (ga K "Web"))
  g_Board : mg "Board" = some (.ref (ga K "Board"))
  n_range : mg "range" = none
  n_list : mg "list" = none
  n_enumerate : mg "enumerate" = none
  n_len : mg "len" = none
  n_sorted : mg "sorted" = none
  n_sum : mg "sum" = none
  n_isinstance : mg "isinstance" = none
  n_int : mg "int" = none
  n_bool : mg "bool" = none
  n_tuple : mg "tuple" = none
  n_str : mg "str" = none
  n_all : mg "all" = none
  n_set : mg "set" = none
  n_zip : mg "zip" = none
  n_max : mg "max" = none
  n_min : mg "min" = none
  i_MOST_NODES : ∃ t, mg "MOST_NODES" = some (.int 30 t)
  i_MOST_EDGES : ∃ t, mg "MOST_EDGES" = some (.int 60 t)
  i_MOST_MODULUS : ∃ t, mg "MOST_MODULUS" = some (.int 60 t)
  c_System : Cls K (ga K "System")
  a_System_own_modulus : NoAttr K (ga K "System") "own_modulus"
  a_System_rows : NoAttr K (ga K "System") "rows"
  a_System_links : NoAttr K (ga K "System") "links"
  a_System_groups : NoAttr K (ga K "System") "groups"
  m_System_init : Meth K (ga K "System") "__init__" (ma K (ga K "System") "__init__")
  m_System_path : Meth K (ga K "System") "path" (ma K (ga K "System") "path")
  m_System_levels : Meth K (ga K "System") "levels" (ma K (ga K "System") "levels")
  m_System_bad_cycle : Meth K (ga K "System") "bad_cycle" (ma K (ga K "System") "bad_cycle")
  m_System_solved : Meth K (ga K "System") "solved" (ma K (ga K "System") "solved")
  k_System : Mk K (ga K "System") (ma K (ga K "System") "__init__")
  c_Web : Cls K (ga K "Web")
  a_Web_own_size : NoAttr K (ga K "Web") "own_size"
  a_Web_own_edges : NoAttr K (ga K "Web") "own_edges"
  a_Web_own_modulus : NoAttr K (ga K "Web") "own_modulus"
  a_Web_own_forest : NoAttr K (ga K "Web") "own_forest"
  a_Web_links : NoAttr K (ga K "Web") "links"
  m_Web_init : Meth K (ga K "Web") "__init__" (ma K (ga K "Web") "__init__")
  m_Web_size : Meth K (ga K "Web") "size" (ma K (ga K "Web") "size")
  m_Web_modulus : Meth K (ga K "Web") "modulus" (ma K (ga K "Web") "modulus")
  m_Web_edges : Meth K (ga K "Web") "edges" (ma K (ga K "Web") "edges")
  m_Web_edge : Meth K (ga K "Web") "edge" (ma K (ga K "Web") "edge")
  m_Web_cycles : Meth K (ga K "Web") "cycles" (ma K (ga K "Web") "cycles")
  m_Web_len : Meth K (ga K "Web") "__len__" (ma K (ga K "Web") "__len__")
  m_Web_eq : Meth K (ga K "Web") "__eq__" (ma K (ga K "Web") "__eq__")
  k_Web : Mk K (ga K "Web") (ma K (ga K "Web") "__init__")
  c_Board : Cls K (ga K "Board")
  a_Board_own_web : NoAttr K (ga K "Board") "own_web"
  a_Board_own_gains : NoAttr K (ga K "Board") "own_gains"
  a_Board_own_fixed : NoAttr K (ga K "Board") "own_fixed"
  a_Board_own_log : NoAttr K (ga K "Board") "own_log"
  a_Board_past : NoAttr K (ga K "Board") "past"
  m_Board_init : Meth K (ga K "Board") "__init__" (ma K (ga K "Board") "__init__")
  m_Board_do_reduce : Meth K (ga K "Board") "do_reduce" (ma K (ga K "Board") "do_reduce")
  m_Board_perform : Meth K (ga K "Board") "perform" (ma K (ga K "Board") "perform")
  m_Board_state : Meth K (ga K "Board") "state" (ma K (ga K "Board") "state")
  m_Board_act : Meth K (ga K "Board") "act" (ma K (ga K "Board") "act")
  m_Board_reduce : Meth K (ga K "Board") "reduce" (ma K (ga K "Board") "reduce")
  m_Board_undo : Meth K (ga K "Board") "undo" (ma K (ga K "Board") "undo")
  m_Board_web : Meth K (ga K "Board") "web" (ma K (ga K "Board") "web")
  m_Board_gains : Meth K (ga K "Board") "gains" (ma K (ga K "Board") "gains")
  m_Board_log : Meth K (ga K "Board") "log" (ma K (ga K "Board") "log")
  m_Board_cycle_sums : Meth K (ga K "Board") "cycle_sums" (ma K (ga K "Board") "cycle_sums")
  m_Board_transform : Meth K (ga K "Board") "transform" (ma K (ga K "Board") "transform")
  m_Board_twin : Meth K (ga K "Board") "twin" (ma K (ga K "Board") "twin")
  k_Board : Mk K (ga K "Board") (ma K (ga K "Board") "__init__")
  f_reduced_number : ∃ fd, FunD K "reduced_number" "reduced_number" (defArgs s_reduced_number) (defBody s_reduced_number) (defScope s_reduced_number) [] [] (ga K "reduced_number") fd
  f_forest_of : ∃ fd, FunD K "forest_of" "forest_of" (defArgs s_forest_of) (defBody s_forest_of) (defScope s_forest_of) [] [] (ga K "forest_of") fd
  f_links_of : ∃ fd, FunD K "links_of" "links_of" (defArgs s_links_of) (defBody s_links_of) (defScope s_links_of) [] [] (ga K "links_of") fd
  f_walk_paths : ∃ fd, FunD K "walk_paths" "walk_paths" (defArgs s_walk_paths) (defBody s_walk_paths) (defScope s_walk_paths) [] [] (ga K "walk_paths") fd
  f_components_of : ∃ fd, FunD K "components_of" "components_of" (defArgs s_components_of) (defBody s_components_of) (defScope s_components_of) [] [] (ga K "components_of") fd
  f_is_integer : ∃ fd, FunD K "is_integer" "is_integer" (defArgs s_is_integer) (defBody s_is_integer) (defScope s_is_integer) [] [] (ga K "is_integer") fd
  f_is_within : ∃ fd, FunD K "is_within" "is_within" (defArgs s_is_within) (defBody s_is_within) (defScope s_is_within) [] [] (ga K "is_within") fd
  f_is_edge : ∃ fd, FunD K "is_edge" "is_edge" (defArgs s_is_edge) (defBody s_is_edge) (defScope s_is_edge) [] [] (ga K "is_edge") fd
  f_is_modulus : ∃ fd, FunD K "is_modulus" "is_modulus" (defArgs s_is_modulus) (defBody s_is_modulus) (defScope s_is_modulus) [] [] (ga K "is_modulus") fd
  f_check_edges : ∃ fd, FunD K "check_edges" "check_edges" (defArgs s_check_edges) (defBody s_check_edges) (defScope s_check_edges) [] [] (ga K "check_edges") fd
  f_is_step : ∃ fd, FunD K "is_step" "is_step" (defArgs s_is_step) (defBody s_is_step) (defScope s_is_step) [] [] (ga K "is_step") fd
  f_step_ends : ∃ fd, FunD K "step_ends" "step_ends" (defArgs s_step_ends) (defBody s_step_ends) (defScope s_step_ends) [] [] (ga K "step_ends") fd
  f_is_walk : ∃ fd, FunD K "is_walk" "is_walk" (defArgs s_is_walk) (defBody s_is_walk) (defScope s_is_walk) [] [] (ga K "is_walk") fd
  f_residue : ∃ fd, FunD K "residue" "residue" (defArgs s_residue) (defBody s_residue) (defScope s_residue) [] [] (ga K "residue") fd
  f_is_residue : ∃ fd, FunD K "is_residue" "is_residue" (defArgs s_is_residue) (defBody s_is_residue) (defScope s_is_residue) [] [] (ga K "is_residue") fd
  f_are_residues : ∃ fd, FunD K "are_residues" "are_residues" (defArgs s_are_residues) (defBody s_are_residues) (defScope s_are_residues) [] [] (ga K "are_residues") fd
  f_is_gains : ∃ fd, FunD K "is_gains" "is_gains" (defArgs s_is_gains) (defBody s_is_gains) (defScope s_is_gains) [] [] (ga K "is_gains") fd
  f_is_potential : ∃ fd, FunD K "is_potential" "is_potential" (defArgs s_is_potential) (defBody s_is_potential) (defScope s_is_potential) [] [] (ga K "is_potential") fd
  f_check_gains : ∃ fd, FunD K "check_gains" "check_gains" (defArgs s_check_gains) (defBody s_check_gains) (defScope s_check_gains) [] [] (ga K "check_gains") fd
  f_check_potential : ∃ fd, FunD K "check_potential" "check_potential" (defArgs s_check_potential) (defBody s_check_potential) (defScope s_check_potential) [] [] (ga K "check_potential") fd
  f_check_fixed : ∃ fd, FunD K "check_fixed" "check_fixed" (defArgs s_check_fixed) (defBody s_check_fixed) (defScope s_check_fixed) [] [] (ga K "check_fixed") fd
  f_walk_sum : ∃ fd, FunD K "walk_sum" "walk_sum" (defArgs s_walk_sum) (defBody s_walk_sum) (defScope s_walk_sum) [] [] (ga K "walk_sum") fd
  f_switched : ∃ fd, FunD K "switched" "switched" (defArgs s_switched) (defBody s_switched) (defScope s_switched) [] [] (ga K "switched") fd
  f_difference_rows : ∃ fd, FunD K "difference_rows" "difference_rows" (defArgs s_difference_rows) (defBody s_difference_rows) (defScope s_difference_rows) [] [] (ga K "difference_rows") fd
  f_system_of : ∃ fd, FunD K "system_of" "system_of" (defArgs s_system_of) (defBody s_system_of) (defScope s_system_of) [] [] (ga K "system_of") fd
  f_transform_equivalence : ∃ fd, FunD K "transform" "transform" (defArgs s_transform_equivalence) (defBody s_transform_equivalence) (defScope s_transform_equivalence) [] [("fixed", V.ref ((kwdAt ("transform_equivalence", none) "fixed") K))] (ga K "transform_equivalence") fd
  f_leads : ∃ fd, FunD K "leads" "leads" (defArgs s_leads) (defBody s_leads) (defScope s_leads) [] [] (ga K "leads") fd
  f_is_transform : ∃ fd, FunD K "is_transform" "is_transform" (defArgs s_is_transform) (defBody s_is_transform) (defScope s_is_transform) [] [("fixed", V.ref ((kwdAt ("is_transform", none) "fixed") K))] (ga K "is_transform") fd
  f_cycle_sums_equivalence : ∃ fd, FunD K "cycle_sums" "cycle_sums" (defArgs s_cycle_sums_equivalence) (defBody s_cycle_sums_equivalence) (defScope s_cycle_sums_equivalence) [] [] (ga K "cycle_sums_equivalence") fd
  f_copied : ∃ fd, FunD K "copied" "copied" (defArgs s_copied) (defBody s_copied) (defScope s_copied) [] [] (ga K "copied") fd
  f_law_pool : ∃ fd, FunD K "_law_pool" "_law_pool" (defArgs s_law_pool) (defBody s_law_pool) (defScope s_law_pool) [] [] (ga K "_law_pool") fd
  f_law_take : ∃ fd, FunD K "_law_take" "_law_take" (defArgs s_law_take) (defBody s_law_take) (defScope s_law_take) [] [] (ga K "_law_take") fd
  f_law_links : ∃ fd, FunD K "_law_links" "_law_links" (defArgs s_law_links) (defBody s_law_links) (defScope s_law_links) [] [] (ga K "_law_links") fd
  f_law_low : ∃ fd, FunD K "_law_low" "_law_low" (defArgs s_law_low) (defBody s_law_low) (defScope s_law_low) [] [] (ga K "_law_low") fd
  f_law_number : ∃ fd, FunD K "_law_number" "_law_number" (defArgs s_law_number) (defBody s_law_number) (defScope s_law_number) [] [] (ga K "_law_number") fd
  f_law_numbers : ∃ fd, FunD K "_law_numbers" "_law_numbers" (defArgs s_law_numbers) (defBody s_law_numbers) (defScope s_law_numbers) [] [] (ga K "_law_numbers") fd
  f_law_put : ∃ fd, FunD K "_law_put" "_law_put" (defArgs s_law_put) (defBody s_law_put) (defScope s_law_put) [] [] (ga K "_law_put") fd
  f_law : ∃ fd, FunD K "law" "law" (defArgs s_law) (defBody s_law) (defScope s_law) [] [] (ga K "law") fd
  f_System_init : ∃ fd, FunD K "__init__" "System.__init__" (defArgs s_System_init) (defBody s_System_init) (defScope s_System_init) [] [] (ma K (ga K "System") "__init__") fd
  f_System_path : ∃ fd, FunD K "path" "System.path" (defArgs s_System_path) (defBody s_System_path) (defScope s_System_path) [] [] (ma K (ga K "System") "path") fd
  f_System_levels : ∃ fd, FunD K "levels" "System.levels" (defArgs s_System_levels) (defBody s_System_levels) (defScope s_System_levels) [] [] (ma K (ga K "System") "levels") fd
  f_System_bad_cycle : ∃ fd, FunD K "bad_cycle" "System.bad_cycle" (defArgs s_System_bad_cycle) (defBody s_System_bad_cycle) (defScope s_System_bad_cycle) [] [] (ma K (ga K "System") "bad_cycle") fd
  f_System_solved : ∃ fd, FunD K "solved" "System.solved" (defArgs s_System_solved) (defBody s_System_solved) (defScope s_System_solved) [] [] (ma K (ga K "System") "solved") fd
  f_Web_init : ∃ fd, FunD K "__init__" "Web.__init__" (defArgs s_Web_init) (defBody s_Web_init) (defScope s_Web_init) [V.ref ((dflAt ("Web", some "__init__") 0) K)] [("modulus", V.int 0)] (ma K (ga K "Web") "__init__") fd
  f_Web_size : ∃ fd, FunD K "size" "Web.size" (defArgs s_Web_size) (defBody s_Web_size) (defScope s_Web_size) [] [] (ma K (ga K "Web") "size") fd
  f_Web_modulus : ∃ fd, FunD K "modulus" "Web.modulus" (defArgs s_Web_modulus) (defBody s_Web_modulus) (defScope s_Web_modulus) [] [] (ma K (ga K "Web") "modulus") fd
  f_Web_edges : ∃ fd, FunD K "edges" "Web.edges" (defArgs s_Web_edges) (defBody s_Web_edges) (defScope s_Web_edges) [] [] (ma K (ga K "Web") "edges") fd
  f_Web_edge : ∃ fd, FunD K "edge" "Web.edge" (defArgs s_Web_edge) (defBody s_Web_edge) (defScope s_Web_edge) [] [] (ma K (ga K "Web") "edge") fd
  f_Web_cycles : ∃ fd, FunD K "cycles" "Web.cycles" (defArgs s_Web_cycles) (defBody s_Web_cycles) (defScope s_Web_cycles) [] [] (ma K (ga K "Web") "cycles") fd
  f_Web_len : ∃ fd, FunD K "__len__" "Web.__len__" (defArgs s_Web_len) (defBody s_Web_len) (defScope s_Web_len) [] [] (ma K (ga K "Web") "__len__") fd
  f_Web_eq : ∃ fd, FunD K "__eq__" "Web.__eq__" (defArgs s_Web_eq) (defBody s_Web_eq) (defScope s_Web_eq) [] [] (ma K (ga K "Web") "__eq__") fd
  f_Board_init : ∃ fd, FunD K "__init__" "Board.__init__" (defArgs s_Board_init) (defBody s_Board_init) (defScope s_Board_init) [] [("fixed", V.ref ((kwdAt ("Board", some "__init__") "fixed") K))] (ma K (ga K "Board") "__init__") fd
  f_Board_do_reduce : ∃ fd, FunD K "do_reduce" "Board.do_reduce" (defArgs s_Board_do_reduce) (defBody s_Board_do_reduce) (defScope s_Board_do_reduce) [] [] (ma K (ga K "Board") "do_reduce") fd
  f_Board_perform : ∃ fd, FunD K "perform" "Board.perform" (defArgs s_Board_perform) (defBody s_Board_perform) (defScope s_Board_perform) [] [] (ma K (ga K "Board") "perform") fd
  f_Board_state : ∃ fd, FunD K "state" "Board.state" (defArgs s_Board_state) (defBody s_Board_state) (defScope s_Board_state) [] [] (ma K (ga K "Board") "state") fd
  f_Board_act : ∃ fd, FunD K "act" "Board.act" (defArgs s_Board_act) (defBody s_Board_act) (defScope s_Board_act) [] [] (ma K (ga K "Board") "act") fd
  f_Board_reduce : ∃ fd, FunD K "reduce" "Board.reduce" (defArgs s_Board_reduce) (defBody s_Board_reduce) (defScope s_Board_reduce) [] [] (ma K (ga K "Board") "reduce") fd
  f_Board_undo : ∃ fd, FunD K "undo" "Board.undo" (defArgs s_Board_undo) (defBody s_Board_undo) (defScope s_Board_undo) [] [] (ma K (ga K "Board") "undo") fd
  f_Board_web : ∃ fd, FunD K "web" "Board.web" (defArgs s_Board_web) (defBody s_Board_web) (defScope s_Board_web) [] [] (ma K (ga K "Board") "web") fd
  f_Board_gains : ∃ fd, FunD K "gains" "Board.gains" (defArgs s_Board_gains) (defBody s_Board_gains) (defScope s_Board_gains) [] [] (ma K (ga K "Board") "gains") fd
  f_Board_log : ∃ fd, FunD K "log" "Board.log" (defArgs s_Board_log) (defBody s_Board_log) (defScope s_Board_log) [] [] (ma K (ga K "Board") "log") fd
  f_Board_cycle_sums : ∃ fd, FunD K "cycle_sums" "Board.cycle_sums" (defArgs s_Board_cycle_sums) (defBody s_Board_cycle_sums) (defScope s_Board_cycle_sums) [] [] (ma K (ga K "Board") "cycle_sums") fd
  f_Board_transform : ∃ fd, FunD K "transform" "Board.transform" (defArgs s_Board_transform) (defBody s_Board_transform) (defScope s_Board_transform) [] [] (ma K (ga K "Board") "transform") fd
  f_Board_twin : ∃ fd, FunD K "twin" "Board.twin" (defArgs s_Board_twin) (defBody s_Board_twin) (defScope s_Board_twin) [] [] (ma K (ga K "Board") "twin") fd
  e_Board_init : emptyT K (kwdAt ("Board", some "__init__") "fixed" K) = true
  e_transform : emptyT K (kwdAt ("transform_equivalence", none) "fixed" K) = true
  e_is_transform : emptyT K (kwdAt ("is_transform", none) "fixed" K) = true
theorem tx_of {K : PySem.W.Frag} {mg : Str → Option Value} {h : Heap} (X : K.In h) (N : h.Ns mainGlobals mg) (c : SaysD fa fn K) (e : more K = true) : Tx K mg := by
  have e' : (emptyT K (kwdAt ("Board", some "__init__") "fixed" K) && emptyT K (kwdAt ("transform_equivalence", none) "fixed" K) && emptyT K (kwdAt ("is_transform", none) "fixed" K)) = true := e
  obtain ⟨e12, e3⟩ := He.ba e'
  obtain ⟨e1, e2⟩ := He.ba e12
  exact ⟨
    He.glo_ok X N (c.fact 0 (f := .glo "reduced_number") rfl),
    He.glo_ok X N (c.fact 1 (f := .glo "forest_of") rfl),
    He.glo_ok X N (c.fact 2 (f := .glo "links_of") rfl),
    He.glo_ok X N (c.fact 3 (f := .glo "walk_paths") rfl),
    He.glo_ok X N (c.fact 4 (f := .glo "components_of") rfl),
    He.glo_ok X N (c.fact 5 (f := .glo "is_integer") rfl),
    He.glo_ok X N (c.fact 6 (f := .glo "is_within") rfl),
    He.glo_ok X N (c.fact 7 (f := .glo "is_edge") rfl),
    He.glo_ok X N (c.fact 8 (f := .glo "is_modulus") rfl),
    He.glo_ok X N (c.fact 9 (f := .glo "check_edges") rfl),
    He.glo_ok X N (c.fact 10 (f := .glo "is_step") rfl),
    He.glo_ok X N (c.fact 11 (f := .glo "step_ends") rfl),
    He.glo_ok X N (c.fact 12 (f := .glo "is_walk") rfl),
    He.glo_ok X N (c.fact 13 (f := .glo "residue") rfl),
    He.glo_ok X N (c.fact 14 (f := .glo "is_residue") rfl),
    He.glo_ok X N (c.fact 15 (f := .glo "are_residues") rfl),
    He.glo_ok X N (c.fact 16 (f := .glo "is_gains") rfl),
    He.glo_ok X N (c.fact 17 (f := .glo "is_potential") rfl),
    He.glo_ok X N (c.fact 18 (f := .glo "check_gains") rfl),
    He.glo_ok X N (c.fact 19 (f := .glo "check_potential") rfl),
    He.glo_ok X N (c.fact 20 (f := .glo "check_fixed") rfl),
    He.glo_ok X N (c.fact 21 (f := .glo "walk_sum") rfl),
    He.glo_ok X N (c.fact 22 (f := .glo "switched") rfl),
    He.glo_ok X N (c.fact 23 (f := .glo "difference_rows") rfl),
    He.glo_ok X N (c.fact 24 (f := .glo "system_of") rfl),
    He.glo_ok X N (c.fact 25 (f := .glo "transform_equivalence") rfl),
    He.glo_ok X N (c.fact 26 (f := .glo "leads") rfl),
    He.glo_ok X N (c.fact 27 (f := .glo "is_transform") rfl),
    He.glo_ok X N (c.fact 28 (f := .glo "cycle_sums_equivalence") rfl),
    He.glo_ok X N (c.fact 29 (f := .glo "copied") rfl),
    He.glo_ok X N (c.fact 30 (f := .glo "_law_pool") rfl),
    He.glo_ok X N (c.fact 31 (f := .glo "_law_take") rfl),
    He.glo_ok X N (c.fact 32 (f := .glo "_law_links") rfl),
    He.glo_ok X N (c.fact 33 (f := .glo "_law_low") rfl),
    He.glo_ok X N (c.fact 34 (f := .glo "_law_number") rfl),
    He.glo_ok X N (c.fact 35 (f := .glo "_law_numbers") rfl),
    He.glo_ok X N (c.fact 36 (f := .glo "_law_put") rfl),
    He.glo_ok X N (c.fact 37 (f := .glo "law") rfl),
    He.glo_ok X N (c.fact 38 (f := .glo "System") rfl),
    He.glo_ok X N (c.fact 39 (f := .glo "Web") rfl),
    He.glo_ok X N (c.fact 40 (f := .glo "Board") rfl),
    He.free_ok X N (c.fact 41 (f := .free "range") rfl),
    He.free_ok X N (c.fact 42 (f := .free "list") rfl),
    He.free_ok X N (c.fact 43 (f := .free "enumerate") rfl),
    He.free_ok X N (c.fact 44 (f := .free "len") rfl),
    He.free_ok X N (c.fact 45 (f := .free "sorted") rfl),
    He.free_ok X N (c.fact 46 (f := .free "sum") rfl),
    He.free_ok X N (c.fact 47 (f := .free "isinstance") rfl),
    He.free_ok X N (c.fact 48 (f := .free "int") rfl),
    He.free_ok X N (c.fact 49 (f := .free "bool") rfl),
    He.free_ok X N (c.fact 50 (f := .free "tuple") rfl),
    He.free_ok X N (c.fact 51 (f := .free "str") rfl),
    He.free_ok X N (c.fact 52 (f := .free "all") rfl),
    He.free_ok X N (c.fact 53 (f := .free "set") rfl),
    He.free_ok X N (c.fact 54 (f := .free "zip") rfl),
    He.free_ok X N (c.fact 55 (f := .free "max") rfl),
    He.free_ok X N (c.fact 56 (f := .free "min") rfl),
    He.int_ok X N (c.fact 57 (f := .int "MOST_NODES" 30) rfl),
    He.int_ok X N (c.fact 58 (f := .int "MOST_EDGES" 60) rfl),
    He.int_ok X N (c.fact 59 (f := .int "MOST_MODULUS" 60) rfl),
    He.cls_ok (c.fact 60 (f := .cls "System") rfl),
    He.noat_ok (c.fact 61 (f := .noat "System" "own_modulus") rfl),
    He.noat_ok (c.fact 62 (f := .noat "System" "rows") rfl),
    He.noat_ok (c.fact 63 (f := .noat "System" "links") rfl),
    He.noat_ok (c.fact 64 (f := .noat "System" "groups") rfl),
    He.meth_ok (c.fact 65 (f := .meth "System" "__init__") rfl),
    He.meth_ok (c.fact 66 (f := .meth "System" "path") rfl),
    He.meth_ok (c.fact 67 (f := .meth "System" "levels") rfl),
    He.meth_ok (c.fact 68 (f := .meth "System" "bad_cycle") rfl),
    He.meth_ok (c.fact 69 (f := .meth "System" "solved") rfl),
    He.mkr_ok (c.fact 70 (f := .mkr "System") rfl),
    He.cls_ok (c.fact 71 (f := .cls "Web") rfl),
    He.noat_ok (c.fact 72 (f := .noat "Web" "own_size") rfl),
    He.noat_ok (c.fact 73 (f := .noat "Web" "own_edges") rfl),
    He.noat_ok (c.fact 74 (f := .noat "Web" "own_modulus") rfl),
    He.noat_ok (c.fact 75 (f := .noat "Web" "own_forest") rfl),
    He.noat_ok (c.fact 76 (f := .noat "Web" "links") rfl),
    He.meth_ok (c.fact 77 (f := .meth "Web" "__init__") rfl),
    He.meth_ok (c.fact 78 (f := .meth "Web" "size") rfl),
    He.meth_ok (c.fact 79 (f := .meth "Web" "modulus") rfl),
    He.meth_ok (c.fact 80 (f := .meth "Web" "edges") rfl),
    He.meth_ok (c.fact 81 (f := .meth "Web" "edge") rfl),
    He.meth_ok (c.fact 82 (f := .meth "Web" "cycles") rfl),
    He.meth_ok (c.fact 83 (f := .meth "Web" "__len__") rfl),
    He.meth_ok (c.fact 84 (f := .meth "Web" "__eq__") rfl),
    He.mkr_ok (c.fact 85 (f := .mkr "Web") rfl),
    He.cls_ok (c.fact 86 (f := .cls "Board") rfl),
    He.noat_ok (c.fact 87 (f := .noat "Board" "own_web") rfl),
    He.noat_ok (c.fact 88 (f := .noat "Board" "own_gains") rfl),
    He.noat_ok (c.fact 89 (f := .noat "Board" "own_fixed") rfl),
    He.noat_ok (c.fact 90 (f := .noat "Board" "own_log") rfl),
    He.noat_ok (c.fact 91 (f := .noat "Board" "past") rfl),
    He.meth_ok (c.fact 92 (f := .meth "Board" "__init__") rfl),
    He.meth_ok (c.fact 93 (f := .meth "Board" "do_reduce") rfl),
    He.meth_ok (c.fact 94 (f := .meth "Board" "perform") rfl),
    He.meth_ok (c.fact 95 (f := .meth "Board" "state") rfl),
    He.meth_ok (c.fact 96 (f := .meth "Board" "act") rfl),
    He.meth_ok (c.fact 97 (f := .meth "Board" "reduce") rfl),
    He.meth_ok (c.fact 98 (f := .meth "Board" "undo") rfl),
    He.meth_ok (c.fact 99 (f := .meth "Board" "web") rfl),
    He.meth_ok (c.fact 100 (f := .meth "Board" "gains") rfl),
    He.meth_ok (c.fact 101 (f := .meth "Board" "log") rfl),
    He.meth_ok (c.fact 102 (f := .meth "Board" "cycle_sums") rfl),
    He.meth_ok (c.fact 103 (f := .meth "Board" "transform") rfl),
    He.meth_ok (c.fact 104 (f := .meth "Board" "twin") rfl),
    He.mkr_ok (c.fact 105 (f := .mkr "Board") rfl),
    c.def_ 0 (d := d_reduced_number) rfl,
    c.def_ 1 (d := d_forest_of) rfl,
    c.def_ 2 (d := d_links_of) rfl,
    c.def_ 3 (d := d_walk_paths) rfl,
    c.def_ 4 (d := d_components_of) rfl,
    c.def_ 5 (d := d_is_integer) rfl,
    c.def_ 6 (d := d_is_within) rfl,
    c.def_ 7 (d := d_is_edge) rfl,
    c.def_ 8 (d := d_is_modulus) rfl,
    c.def_ 9 (d := d_check_edges) rfl,
    c.def_ 10 (d := d_is_step) rfl,
    c.def_ 11 (d := d_step_ends) rfl,
    c.def_ 12 (d := d_is_walk) rfl,
    c.def_ 13 (d := d_residue) rfl,
    c.def_ 14 (d := d_is_residue) rfl,
    c.def_ 15 (d := d_are_residues) rfl,
    c.def_ 16 (d := d_is_gains) rfl,
    c.def_ 17 (d := d_is_potential) rfl,
    c.def_ 18 (d := d_check_gains) rfl,
    c.def_ 19 (d := d_check_potential) rfl,
    c.def_ 20 (d := d_check_fixed) rfl,
    c.def_ 21 (d := d_walk_sum) rfl,
    c.def_ 22 (d := d_switched) rfl,
    c.def_ 23 (d := d_difference_rows) rfl,
    c.def_ 24 (d := d_system_of) rfl,
    c.def_ 25 (d := d_transform_equivalence) rfl,
    c.def_ 26 (d := d_leads) rfl,
    c.def_ 27 (d := d_is_transform) rfl,
    c.def_ 28 (d := d_cycle_sums_equivalence) rfl,
    c.def_ 29 (d := d_copied) rfl,
    c.def_ 30 (d := d_law_pool) rfl,
    c.def_ 31 (d := d_law_take) rfl,
    c.def_ 32 (d := d_law_links) rfl,
    c.def_ 33 (d := d_law_low) rfl,
    c.def_ 34 (d := d_law_number) rfl,
    c.def_ 35 (d := d_law_numbers) rfl,
    c.def_ 36 (d := d_law_put) rfl,
    c.def_ 37 (d := d_law) rfl,
    c.def_ 38 (d := d_System_init) rfl,
    c.def_ 39 (d := d_System_path) rfl,
    c.def_ 40 (d := d_System_levels) rfl,
    c.def_ 41 (d := d_System_bad_cycle) rfl,
    c.def_ 42 (d := d_System_solved) rfl,
    c.def_ 43 (d := d_Web_init) rfl,
    c.def_ 44 (d := d_Web_size) rfl,
    c.def_ 45 (d := d_Web_modulus) rfl,
    c.def_ 46 (d := d_Web_edges) rfl,
    c.def_ 47 (d := d_Web_edge) rfl,
    c.def_ 48 (d := d_Web_cycles) rfl,
    c.def_ 49 (d := d_Web_len) rfl,
    c.def_ 50 (d := d_Web_eq) rfl,
    c.def_ 51 (d := d_Board_init) rfl,
    c.def_ 52 (d := d_Board_do_reduce) rfl,
    c.def_ 53 (d := d_Board_perform) rfl,
    c.def_ 54 (d := d_Board_state) rfl,
    c.def_ 55 (d := d_Board_act) rfl,
    c.def_ 56 (d := d_Board_reduce) rfl,
    c.def_ 57 (d := d_Board_undo) rfl,
    c.def_ 58 (d := d_Board_web) rfl,
    c.def_ 59 (d := d_Board_gains) rfl,
    c.def_ 60 (d := d_Board_log) rfl,
    c.def_ 61 (d := d_Board_cycle_sums) rfl,
    c.def_ 62 (d := d_Board_transform) rfl,
    c.def_ 63 (d := d_Board_twin) rfl,
    e1, e2, e3⟩
end Tt
set_option Elab.async false
set_option linter.all false
set_option maxRecDepth 100000
set_option maxHeartbeats 2000000
/-! Rules that the layer has not. -/
namespace Tt
open PySem PySem.Spec PyProof.Rows L2
/-! ### e.f as a target -/
def gFld (K : PySem.W.Frag) (ta : TE) (f : Str) : TG := fun v σ H Q => ta σ H fun x H1 => ∃ a C dx fs, x = .ref a ∧ H1 a = some (.ins C dx fs) ∧ Cls K C ∧ NoAttr K C f ∧ fs.length < 1000 ∧ Q σ (upd H1 a (.ins C dx (putF f v fs)))
theorem pg_fld {X : Cx} {o : Expr} {f : Str} {pos : Pos} {ta : TE} (ho : PE X o ta) : PG X (.Attribute o f pos) (gFld X.K ta f) := by
  refine ⟨fun pins s σ H v u Q I r h => ?_⟩
  show wpAny _ _ (do let ov ← holding [u] (eval o X.env); standAt pos.atName; holding [u, ov] (setAttr ov f u); release [u, ov] []) _ _ s
  refine wpAny_bind (wpAny_holding (thn (ho.run pins s σ H _ I h) fun ov s1 ⟨x, H1, I1, r1, a, C, dx, fs, ex, ea, c, n, hl, q⟩ => ?_))
  subst ex
  obtain rfl : ov = Value.ref a := r1
  refine wpAny_bind (wpAny_standAt (wpAny_bind (wpAny_holding (setattr_ok I1 ea c n hl r fun s2 I2 => ?_))))
  exact wpAny_release ⟨σ, _, I2, q⟩
/-! ### a, *b = a tuple -/
section
variable {prog : Program} {w : World} {A : Around} {E : Value → Shared → Prop} {s : Shared}
theorem walk_tail (hh : A.handled = none) (I t : Addr) (hne : t ≠ I) (v : Value) (vs : List Value) :
    Walks prog w A I [I, t] [I] vs.length (fun i u => vs[i]? = some u) (fun i h => h.IsTupleIter I t (i + 1) ∧ h.IsTuple t (v :: vs).toArray) := by
  have W0 := Walks.tuple (prog := prog) (w := w) (A := A) hh I t hne (v :: vs).toArray
  have sz : (v :: vs).toArray.size = vs.length + 1 := by simp
  refine ⟨W0.sub, fun i h h' st hk => W0.frame (i + 1) h h' st hk, fun i s Q E hi st hQ => ?_, fun s Q E st hQ => ?_, fun i s Q E st hQ => W0.self (i + 1) s Q E st hQ⟩
  · refine W0.item (i + 1) s Q E (by rw [sz]; omega) st fun u h' tk hu st' hk => hQ u h' tk (by simpa using hu) st' hk
  · exact W0.done s Q E (by rw [sz]; exact st) hQ
theorem unpack_star {t : Addr} {v : Value} {vs : List Value} {Q : List Value → Shared → Prop} (hh : A.handled = none) (ht : s.heap.IsTuple t (v :: vs).toArray) (hz : vs.length ≤ sizeLine)
    (h : ∀ (h' : Heap) (tk : Nat), (∀ b o, s.heap.get? b = some o → h'.get? b = some o) → Q [v, .ref h'.objs.size] { s with heap := h'.push { cls := .type "list", data := .seq vs.toArray }, toks := tk }) :
    wpAny (model prog w) A (unpackItems (.ref t) 2 (some 1)) Q E s := by
  have hlt : t ≠ s.heap.objs.size := by obtain ⟨o, ho, _⟩ := ht; exact Nat.ne_of_lt (Heap.lt_size ho)
  unfold unpackItems
  refine wpAny_bind ?_
  unfold notIterableAtAll
  refine wpAny_bind (wpAny_specialOf ht.typeIs PySem.F.slot_tuple_iter.lookup ?_)
  refine wpAny_pure ?_
  simp only [Bool.false_eq_true, if_false]
  refine wpAny_bind (wpAny_holding (wpAny_pyIter_tuple ht ?_))
  refine wpAny_bind (wpAny_holding (wpAny_draw_tuple hlt 1 0 _ _ ⟨_, Heap.get?_push_size _ rfl, rfl, rfl⟩ (ht.push _) (by simp) fun h₁ hit₁ hs₁ => ?_))
  have e1 : ((v :: vs).toArray.toList.drop 0).take 1 = [v] := by simp
  rw [e1]
  rw [if_neg (by simp)]
  have ht₁ : h₁.IsTuple t (v :: vs).toArray := (ht.push _).extBut hs₁.extBut hlt
  have hsz : s.heap.objs.size < h₁.objs.size := by obtain ⟨o, ho, _⟩ := hit₁; exact Heap.lt_size ho
  have W := (walk_tail (prog := prog) (w := w) (A := A.in1) (by exact hh) s.heap.objs.size t hlt v vs).toS
  refine wpAny_bind (wpAny_holding (wpAny_collect_iter (T := "tuple_iterator") (s := { s with heap := h₁ }) (.inr (.inr (.inr rfl))) W (fun i s st => st.1.typeIs) ⟨hit₁, ht₁⟩ (fun b hb => ?_) (by simp) (fun s' acc hm ho => ?_) hz))
  · rcases List.mem_cons.mp hb with rfl | hb
    · exact hsz
    · have : b = t := by simpa using hb
      subst this
      obtain ⟨o, ho, _⟩ := ht₁
      exact Heap.lt_size ho
  · have el : acc.toList = vs := by
      refine List.ext_getElem? fun j => ?_
      have h2 := ho.1
      by_cases hj : j < acc.size
      · have h3 := ho.2 j acc[j] (by simp [hj])
        rw [h3]
        simp [hj]
      · rw [List.getElem?_eq_none (by simpa using hj), List.getElem?_eq_none (by omega)]
    rw [el]
    rw [if_neg (by omega)]
    have e2 : vs.length - (2 - 1 - 1) = vs.length := by omega
    rw [e2, List.take_length, List.drop_length]
    obtain ⟨hp, g, dr, tk, os⟩ := s'
    obtain ⟨k1, k2, k3, k4, k5⟩ := hm
    obtain rfl : g = s.gens := k2
    obtain rfl : dr = s.drawn := k3
    obtain rfl : os = s.os := k4
    have keep : ∀ b o, s.heap.get? b = some o → hp.get? b = some o := fun b o e => by
      have hb : b < s.heap.objs.size := Heap.lt_size e
      refine k1 b o (by simp; exact Nat.ne_of_lt hb) ?_
      exact hs₁.extBut b o (Nat.ne_of_lt hb) (Heap.get?_push_of_some _ e)
    refine wpAny_bind (wpAny_newList ?_ hz)
    refine wpAny_pure ?_
    exact h hp tk keep
end

def gStar1 (K : PySem.W.Frag) (t u : TG) : TG := fun v σ H Q => ∃ a x xs, v = .ref a ∧ SqT K H a (x :: xs) ∧ ∀ l, H l = none → t x σ (upd H l (.lst xs)) fun σ' H' => u (.ref l) σ' H' Q
theorem pg_star1 {X : Cx} {e1 e2 : Expr} {t u : TG} {k : Nat} {p pos : Pos} (hc : X.calm = true) (h1 : PG X e1 t) (h2 : PG X e2 u)
    (hs : assignEach [e1, .Starred e2 p] X.env = [(false, assign e1 X.env), (true, assign e2 X.env)] := by rfl) : PG X (.Tuple [e1, .Starred e2 p] k pos) (gStar1 X.K t u) := by
  refine ⟨fun pins s σ H v w Q I r hw => ?_⟩
  obtain ⟨a, x, xs, e1', hq, hw⟩ := hw
  subst e1'
  cases r
  obtain ⟨its, rv, ht, hz⟩ := I.tuple hq
  cases rv with
  | @cons _ y _ ys rx rxs =>
    rw [List.length_cons] at hz
    show wpAny _ _ (do standAt pos; unpack (.ref a) (assignEach [e1, .Starred e2 p] X.env)) _ _ s
    refine wpAny_bind (wpAny_standAt ?_)
    unfold unpack
    rw [hs]
    refine wpAny_bind (wpAny_holding (unpack_star (I.ok.hd hc) ht (by rw [← rxs.length]; omega) fun h' tk keep => ?_))
    have I1 : Inv X pins σ H { s with heap := h', toks := tk } := I.kept keep
    have hf : H h'.objs.size = none := I1.hok.fresh (Nat.le_refl _)
    have I2 : Inv X pins σ (upd H h'.objs.size (.lst xs)) { s with heap := h'.push { cls := .type "list", data := .seq ys.toArray }, toks := tk } :=
      I1.laid (t' := tk) (fun b u e => Heap.get?_push_of_some _ e) (Nat.le_refl _) ⟨by omega, ys, 0, rxs, Heap.get?_push_size _ rfl⟩
    show wpAny _ _ (assignInOrder [assign e1 X.env, assign e2 X.env] [y, .ref h'.objs.size]) _ _ _
    refine assignInOrder_cons (thn (h1.run pins _ σ _ x y _ I2 rx (hw _ hf)) fun _ s1 ⟨σ1, H1, I1', q1⟩ => ?_)
    refine assignInOrder_cons (thn (h2.run pins s1 σ1 H1 (.ref h'.objs.size) _ Q I1' rfl q1) fun _ s2 q2 => ?_)
    exact assignInOrder_nil q2
/-! ### a thing just made is locked for good -/
def tFrz (t : TE) : TE := fun σ H Q => t σ H fun v H1 => ∃ d u, v = .ref d ∧ H1 d = some u ∧ Mut (some u) ∧ ∀ od, Q v (upd H1 d (.frz od u))
theorem pe_frz {X : Cx} {e : Expr} {t : TE} (h : PE X e t) : PE X e (tFrz t) := by
  refine ⟨fun pins s σ H Q I hw => ?_⟩
  refine thn (h.run pins s σ H _ I hw) fun v s1 ⟨x, H1, I1, r, d, u, ex, hd, mu, q⟩ => ?_
  obtain ⟨od, I2⟩ := I1.lock hd mu
  exact ⟨x, _, I2, r, q od⟩
/-! ### what is never reached -/
def tNo : TE := fun _ _ _ => False
theorem pe_no {X : Cx} {e : Expr} : PE X e tNo := ⟨fun _ _ _ _ _ _ h => h.elim⟩
/-! ### len of an own instance -/
section
variable {X : Cx}
theorem call_lenI {CX : CXT} {k : Nat} {C f : Addr} {fd : FuncData} {sp : Sp} {E : XK} (F : FnOk X.prog X.w X.K X.mg X.base CX k f fd ["self"] sp) (hr : Room (k + 1) X.A)
    (m : Meth X.K C "__len__" f) (c : Cls X.K C) (hb : Binds X.K fd ["self"] []) (hx : Passes CX X E) :
    CallR X (.builtin "len") (fun xs H Q => ∃ a dx fs, xs = [.ref a] ∧ H a = some (.ins C dx fs) ∧ sp [.ref a] H (fun v H' => ∃ n : Int, v = .int n ∧ 0 ≤ n ∧ n < 2 ^ 62 ∧ Q (.int n) H') E) := by
  intro pins s σ H xs us Q I r h
  obtain ⟨a, dx, fs, rfl, ha, hsp⟩ := h
  obtain ⟨u, rfl, ru⟩ := vals1 r
  obtain rfl : u = Value.ref a := ru
  obtain ⟨mA, O, _⟩ := ins_get I.hok ha
  obtain ⟨od, J, _⟩ := O.look
  obtain ⟨mF, hF⟩ := I.fr
  refine PySem.W.len_K hF I.ok.mod.kin J m.at_ m.fn ?_
  refine wpAny_call (codeAny_mono (F.run X.A.in1 X.stack s H ⟨[.ref a], []⟩ [.ref a] [.ref a] _ E hr.in1 I.env0.in1 (by
    have := hb s [.ref a] I.kIn rfl
    simpa using this) (.cons rfl .nil) hsp) fun r s' hq => ?_)
  cases r with
  | error e => exact hx pins σ H s e s' I hq
  | ok fl =>
    cases fl with
    | ret w =>
      obtain ⟨z, H', I', rz, n, ez, h0, h1, q⟩ := I.after hq
      subst ez
      obtain ⟨t, rfl⟩ := rz
      refine ⟨⟨h0, by omega⟩, ?_⟩
      exact ⟨.int n, H', I'.tok _, ⟨_, rfl⟩, q⟩
    | next => exact False.elim hq
    | brk => exact False.elim hq
    | cont => exact False.elim hq
/-! ### d.update(e), two dicts -/
theorem mt_dupdate : MtR X "dict.update" (fun x xs H Q => ∃ a b ks ls, x = .ref a ∧ xs = [.ref b] ∧ a ≠ b ∧ H a = some (.dK ks) ∧ H b = some (.dK ls) ∧ ks.length + ls.length ≤ sizeLine ∧ Q .non (upd H a (.dK (mergeK ks ls)))) := by
  intro pins s σ H x xs v us Q I rx rxs h
  obtain ⟨a, b, ks, ls, rfl, rfl, hne, ha, hb, hz, q⟩ := h
  obtain rfl : v = Value.ref a := rx
  obtain ⟨u, rfl, ru⟩ := vals1 rxs
  obtain rfl : u = Value.ref b := ru
  obtain ⟨z, hd, vs, rel, dd⟩ := dk_of I.hok ha
  obtain ⟨z2, hd2, vs2, rel2, dd2⟩ := dk_of I.hok hb
  refine call_meetsIn PySem.F.slot_dict_update dd.typeIs PySem.F.entry_dict_update (PySem.F.args_dict_update_2 _ _) (meets_dict_update (mixKind X.prog X.w) a b hne hd2)
    ⟨vs, vs2, dd, dd2, by rw [← rel.length, ← rel2.length]; exact hz, fun h' dd' _ hs => ?_⟩
  have he : ∃ q, h'.get? a = some q := let ⟨q, _, _, hq, _⟩ := dd'; ⟨q, hq⟩
  refine ⟨.non, _, d_write (t' := s.toks) I (by rw [ha]; exact True.intro) hs he (dk_new (Nat.le_trans (length_mergeK ls ks) hz) hd (KV.merge rel2 rel) dd'), rfl, q⟩
/-! ### sorted(()) -/
theorem cr_sortedT0 : CallR X (.builtin "sorted") (fun xs H Q => ∃ a, xs = [.ref a] ∧ SqT X.K H a [] ∧ ∀ p, H p = none → Q (.ref p) (upd H p (.lst []))) := by
  intro pins s σ H vs us Q I r h
  obtain ⟨a, rfl, hs, q⟩ := h
  obtain ⟨its, rv, ht, hz⟩ := I.tuple hs
  cases rv
  obtain ⟨u, rfl, ru⟩ := vals1 r
  obtain rfl : u = Value.ref a := ru
  obtain ⟨o, ho, hc, n, hd⟩ := ht
  refine Calls.call_function_entry kind_sorted plain_sorted entry_sorted (args_sorted1 _) ?_
  unfold Builtin.«sorted»
  refine wpAny_bind (m := checkCount "sorted" 1 1 _) (wpAny_pure ?_)
  refine wpAny_bind (wpAny_collect_seq a (.inr rfl) ho hc hd fun h' keep => ?_)
  refine wpAny_bind (wpAny_newList ?_)
  have I1 : Inv X pins σ H { s with heap := h' } := I.kept (t' := s.toks) keep
  have hf : H h'.objs.size = none := I1.hok.fresh (Nat.le_refl _)
  have hoL : (h'.push (seqObj "list" #[] 0)).get? h'.objs.size = some (seqObj "list" #[] 0) := Heap.get?_push_size _ rfl
  have I2 : Inv X pins σ (upd H h'.objs.size (.lst [])) { s with heap := h'.push (seqObj "list" #[] 0) } :=
    I1.laid (t' := s.toks) (fun b u e => Heap.get?_push_of_some _ e) (Nat.le_refl _) ⟨Nat.zero_le _, [], 0, .nil, hoL⟩
  refine wpAny_bind (wpAny_holding (wpAny_call_entry PyProof.Rows.slot_list_sort ⟨_, hoL, rfl⟩ PyProof.Rows.entry_list_sort
    (SrtO.list_sort_ord SrtO.swo_int (vs := []) hoL (Nat.zero_le _) (fun h2 => absurd h2 (by decide)) fun out h1 h2 => ⟨.none, rfl, ?_⟩) (PyProof.Rows.args_list_sort _)))
  have e0 : out = [] := by
    have := h2.len
    exact List.length_eq_zero_iff.mp this
  subst e0
  obtain ⟨ep, he'⟩ := PyProof.Rows.sortedHeap_at (vs := []) (out := #[]) hoL
  refine wpAny_pure ⟨_, rfl, .ref h'.objs.size, _, I2.write (x := h'.objs.size) (e := h'.objs.size) (o := .lst []) (t' := s.toks) (by rw [upd_same]; trivial) (.inl rfl) (fun b u hb hu => ?_) ⟨_, he'⟩ ⟨Nat.zero_le _, [], ep, .nil, he'⟩, rfl, ?_⟩
  · rw [PyProof.Rows.sortedHeap_old hb (Heap.lt_size hu)]; exact hu
  · rw [upd_upd]
    exact q _ hf
end
end Tt
set_option Elab.async false
set_option linter.all false
set_option maxRecDepth 100000
set_option maxHeartbeats 2000000
/-! Data on the abstract heap, apart from the addresses M (things under construction). -/
namespace Tt
open PySem PySem.Spec PyProof.Rows L2
section
variable {X : Cx}
def rNeMix (K : PySem.W.Frag) : R2 := fun x y H Q => ∃ a b xs ys, x = .ref a ∧ y = .ref b ∧ SqL K H a xs ∧ SqL K H b ys ∧ xs.length = ys.length ∧
  (∀ (i : Nat) x y, xs[i]? = some x → ys[i]? = some y → (∃ p, x = .ref p ∧ y = .ref p) ∨ ∃ d, Dp K H x d ∧ Dp K H y d ∧ SeqAt.shaped d = true) ∧ Q (.bl false) H
theorem op_neMix (hu : X.A.in1.units + 64 < cLine) (hu0 : X.A.units < cLine) : OpR X (compareOp .NotEq) (rNeMix X.K) := by
  intro pins s σ H x y v u Q I rx ry h
  obtain ⟨a, b, xs, ys, rfl, rfl, ha, hb, hl, he, q⟩ := h
  obtain rfl : v = Value.ref a := rx
  obtain rfl : u = Value.ref b := ry
  obtain ⟨its, rv, pl, hz⟩ := I.list ha
  obtain ⟨its2, rv2, pl2, hz2⟩ := I.list hb
  have hsz : its.toArray.size = its2.toArray.size := by rw [List.size_toArray, List.size_toArray, ← rv.length, ← rv2.length, hl]
  have all : ∀ n, (List.range n).all (fun _ => true) = true := fun n => by simp
  refine SeqAt.RcNeAt.lists (e := fun _ => true) pl.isList pl2.isList hsz hu0 (fun j h1 h2 => ?_) X.prog X.w X.xe _ ?_
  · have k1 : j < xs.length := by rw [rv.length]; simpa using h1
    have k2 : j < ys.length := by rw [rv2.length]; simpa using h2
    obtain ⟨w1, g1, r1⟩ := rv.get (List.getElem?_eq_getElem k1)
    obtain ⟨w2, g2, r2⟩ := rv2.get (List.getElem?_eq_getElem k2)
    have e1 : its.toArray[j] = w1 := by
      have := List.getElem?_eq_some_iff.mp g1
      obtain ⟨_, z⟩ := this
      simpa using z
    have e2 : its2.toArray[j] = w2 := by
      have := List.getElem?_eq_some_iff.mp g2
      obtain ⟨_, z⟩ := this
      simpa using z
    rw [e1, e2]
    rcases he j _ _ (List.getElem?_eq_getElem k1) (List.getElem?_eq_getElem k2) with ⟨p, z1, z2⟩ | ⟨d, d1, d2, sh⟩
    · rw [z1] at r1
      rw [z2] at r2
      obtain rfl : w1 = Value.ref p := r1
      obtain rfl : w2 = Value.ref p := r2
      exact SeqAt.EqAt.same _
    · obtain ⟨as, q1⟩ := Dp.reads I d _ _ d1 r1
      obtain ⟨bs, q2⟩ := Dp.reads I d _ _ d2 r2
      have z := SeqAt.eqAt_reads d d X.A.in1 s w1 w2 as bs q1 q2 (SeqAt.canLay_of_shaped sh) (SeqAt.canLay_of_shaped sh) (SeqAt.room_of_shaped sh hu)
      rw [SeqAt.eqv_refl d (SeqAt.canLay_of_shaped sh)] at z
      exact z
  · rw [all]
    exact ⟨.bl false, H, I, rfl, q⟩
end

/-! ### data -/
abbrev Ms := Addr → Prop
/-- what stands under construction is tracked -/
def MOk (M : Ms) (H : Hp) : Prop := ∀ a, M a → ∃ o, H a = some o
mutual
inductive Dd (M : Ms) (H : Hp) : V → PyData → Prop
  | int (i : Int) : Dd M H (.int i) (.int i)
  | str (x : Str) : Dd M H (.str x) (.str x)
  | lst {a : Addr} {xs : List V} {ds : List PyData} : ¬ M a → H a = some (.lst xs) → DdAll M H xs ds → Dd M H (.ref a) (.list ds)
  | tup {a : Addr} {xs : List V} {ds : List PyData} : ¬ M a → H a = some (.tup xs) → DdAll M H xs ds → Dd M H (.ref a) (.tuple ds)
inductive DdAll (M : Ms) (H : Hp) : List V → List PyData → Prop
  | nil : DdAll M H [] []
  | cons {v : V} {vs : List V} {d : PyData} {ds : List PyData} : Dd M H v d → DdAll M H vs ds → DdAll M H (v :: vs) (d :: ds)
end
mutual
theorem Dd.move {M M' : Ms} {H H' : Hp} (k : ∀ a o, ¬ M a → H a = some o → ¬ M' a ∧ H' a = some o) : ∀ (d : PyData) (v : V), Dd M H v d → Dd M' H' v d
  | .int i, _, h => by cases h; exact .int i
  | .str x, _, h => by cases h; exact .str x
  | .list ds, _, h => by
    cases h with
    | lst m e a =>
      obtain ⟨m', e'⟩ := k _ _ m e
      exact .lst m' e' (DdAll.move k ds _ a)
  | .tuple ds, _, h => by
    cases h with
    | tup m e a =>
      obtain ⟨m', e'⟩ := k _ _ m e
      exact .tup m' e' (DdAll.move k ds _ a)
  | .none, _, h => by cases h
  | .bool _, _, h => by cases h
  | .dict _, _, h => by cases h
theorem DdAll.move {M M' : Ms} {H H' : Hp} (k : ∀ a o, ¬ M a → H a = some o → ¬ M' a ∧ H' a = some o) : ∀ (ds : List PyData) (vs : List V), DdAll M H vs ds → DdAll M' H' vs ds
  | [], _, h => by cases h; exact .nil
  | d :: ds, _, h => by
    cases h with
    | cons a b => exact .cons (Dd.move k d _ a) (DdAll.move k ds _ b)
end
mutual
theorem Dd.dp {K : PySem.W.Frag} {M : Ms} {H : Hp} : ∀ (d : PyData) (v : V), Dd M H v d → Dp K H v d
  | .int i, _, h => by cases h; exact .int i
  | .str x, _, h => by cases h; exact .str x
  | .list ds, _, h => by
    cases h with
    | lst m e a => exact .lst (SqL.of e) (DdAll.dp ds _ a)
  | .tuple ds, _, h => by
    cases h with
    | tup m e a => exact .tup (SqT.of e) (DdAll.dp ds _ a)
  | .none, _, h => by cases h
  | .bool _, _, h => by cases h
  | .dict _, _, h => by cases h
theorem DdAll.dp {K : PySem.W.Frag} {M : Ms} {H : Hp} : ∀ (ds : List PyData) (vs : List V), DdAll M H vs ds → DpAll K H vs ds
  | [], _, h => by cases h; exact .nil
  | d :: ds, _, h => by
    cases h with
    | cons a b => exact .cons (Dd.dp d _ a) (DdAll.dp ds _ b)
end
section
variable {M M' : Ms} {H H' : Hp} {v : V} {d : PyData} {vs ws : List V} {ds es : List PyData}
theorem Dd.same (h : Dd M H v d) (s : Same H H') : Dd M H' v d := Dd.move (fun a o m e => ⟨m, s a o e⟩) d v h
theorem DdAll.same (h : DdAll M H vs ds) (s : Same H H') : DdAll M H' vs ds := DdAll.move (fun a o m e => ⟨m, s a o e⟩) ds vs h
/-- a thing under construction changes -/
theorem Dd.upd {D : Addr} {o : HO} (h : Dd M H v d) (m : M D) : Dd M (upd H D o) v d := Dd.move (fun a o m' e => ⟨m', by rw [upd_ne (fun z => m' (by rw [z]; exact m))]; exact e⟩) d v h
theorem DdAll.upd {D : Addr} {o : HO} (h : DdAll M H vs ds) (m : M D) : DdAll M (upd H D o) vs ds := DdAll.move (fun a o m' e => ⟨m', by rw [upd_ne (fun z => m' (by rw [z]; exact m))]; exact e⟩) ds vs h
theorem Dd.less (h : Dd M H v d) (k : ∀ a, M' a → M a) : Dd M' H v d := Dd.move (fun a o m e => ⟨fun z => m (k a z), e⟩) d v h
theorem DdAll.less (h : DdAll M H vs ds) (k : ∀ a, M' a → M a) : DdAll M' H vs ds := DdAll.move (fun a o m e => ⟨fun z => m (k a z), e⟩) ds vs h
/-- M and one more -/
def also (M : Ms) (D : Addr) : Ms := fun a => M a ∨ a = D
/-- a new thing is put under construction -/
theorem Dd.also {D : Addr} (h : Dd M H v d) (n : H D = none) : Dd (also M D) H v d := Dd.move (fun a o m e => ⟨fun z => z.elim m (fun z => by rw [z, n] at e; cases e), e⟩) d v h
theorem DdAll.also {D : Addr} (h : DdAll M H vs ds) (n : H D = none) : DdAll (also M D) H vs ds := DdAll.move (fun a o m e => ⟨fun z => z.elim m (fun z => by rw [z, n] at e; cases e), e⟩) ds vs h
theorem MOk.same (m : MOk M H) (s : Same H H') : MOk M H' := fun a h => let ⟨o, e⟩ := m a h; ⟨o, s a o e⟩
theorem MOk.new {D : Addr} (m : MOk M H) (n : H D = none) : ¬ M D := fun z => by obtain ⟨o, e⟩ := m D z; rw [n] at e; cases e
theorem MOk.also {D : Addr} {o : HO} (m : MOk M H) (n : H D = some o) : MOk (also M D) H := fun a h => h.elim (m a) fun z => by rw [z]; exact ⟨o, n⟩
theorem MOk.upd {D : Addr} {o : HO} (m : MOk M H) : MOk M (L2.upd H D o) := fun a h => by
  by_cases e : a = D
  · rw [e, upd_same]; exact ⟨o, rfl⟩
  · rw [upd_ne e]; exact m a h
def no : Ms := fun _ => False
theorem mok_no {H : Hp} : MOk no H := fun _ h => h.elim
theorem Same.new {p : Addr} {o : HO} (n : H p = none) : Same H (L2.upd H p o) := fun b u e => by rw [upd_ne (ne_of_none e n)]; exact e
/-- a thing that H does not know changes -/
theorem Same.mut {p : Addr} {o : HO} (s : Same H H') (n : H p = none) : Same H (L2.upd H' p o) := fun b u e => by rw [upd_ne (ne_of_none e n)]; exact s b u e
theorem DdAll.length (h : DdAll M H vs ds) : vs.length = ds.length := by
  induction ds generalizing vs with
  | nil => cases h; rfl
  | cons d ds ih =>
    cases h with
    | cons a b => rw [List.length_cons, List.length_cons, ih b]
theorem DdAll.get (h : DdAll M H vs ds) {i : Nat} {d : PyData} (e : ds[i]? = some d) : ∃ x, vs[i]? = some x ∧ Dd M H x d := by
  induction ds generalizing vs i with
  | nil => simp at e
  | cons c ds ih =>
    cases h with
    | cons a b =>
      cases i with
      | zero =>
        have e' : c = d := by simpa using e
        subst e'
        exact ⟨_, rfl, a⟩
      | succ i =>
        obtain ⟨x, h1, h2⟩ := ih b (i := i) (by simpa using e)
        exact ⟨x, by simpa using h1, h2⟩
theorem DdAll.at (h : DdAll M H vs ds) {i : Nat} {x : V} (e : vs[i]? = some x) : ∃ d, ds[i]? = some d ∧ Dd M H x d := by
  have hi : i < vs.length := (List.getElem?_eq_some_iff.mp e).1
  obtain ⟨y, h1, h2⟩ := h.get (i := i) (d := ds[i]'(by rw [← h.length]; exact hi)) (by simp)
  rw [e] at h1
  cases h1
  exact ⟨_, by simp, h2⟩
theorem DdAll.append (h : DdAll M H vs ds) (k : DdAll M H ws es) : DdAll M H (vs ++ ws) (ds ++ es) := by
  induction ds generalizing vs with
  | nil => cases h; exact k
  | cons d ds ih =>
    cases h with
    | cons a b => exact .cons a (ih b)
theorem DdAll.snoc (h : DdAll M H vs ds) (k : Dd M H v d) : DdAll M H (vs ++ [v]) (ds ++ [d]) := h.append (.cons k .nil)
theorem DdAll.set (h : DdAll M H vs ds) (k : Dd M H v d) (i : Nat) : DdAll M H (vs.set i v) (ds.set i d) := by
  induction ds generalizing vs i with
  | nil => cases h; exact .nil
  | cons c ds ih =>
    cases h with
    | cons a b =>
      cases i with
      | zero => exact .cons k b
      | succ i => exact .cons a (ih b i)
theorem DdAll.ints (ns : List Int) : DdAll M H (ns.map V.int) (ns.map PyData.int) := by
  induction ns with
  | nil => exact .nil
  | cons n ns ih => exact .cons (.int n) ih
theorem DdAll.of_ints {ns : List Int} (h : DdAll M H vs (ns.map PyData.int)) : vs = ns.map V.int := by
  induction ns generalizing vs with
  | nil => cases h; rfl
  | cons n ns ih =>
    cases h with
    | cons a b =>
      cases a
      rw [ih b]
      rfl
theorem Dd.list_inv (h : Dd M H v (.list ds)) : ∃ a xs, v = .ref a ∧ ¬ M a ∧ H a = some (.lst xs) ∧ DdAll M H xs ds := by
  cases h with
  | lst m e a => exact ⟨_, _, rfl, m, e, a⟩
theorem Dd.tup_inv (h : Dd M H v (.tuple ds)) : ∃ a xs, v = .ref a ∧ ¬ M a ∧ H a = some (.tup xs) ∧ DdAll M H xs ds := by
  cases h with
  | tup m e a => exact ⟨_, _, rfl, m, e, a⟩
/-- a tuple of ints -/
theorem Dd.tup_ints {ns : List Int} (h : Dd M H v (.tuple (ns.map PyData.int))) : ∃ a, v = .ref a ∧ H a = some (.tup (ns.map V.int)) := by
  obtain ⟨a, xs, e, _, h1, h2⟩ := h.tup_inv
  rw [h2.of_ints] at h1
  exact ⟨a, e, h1⟩
theorem Dd.list_ints {ns : List Int} (h : Dd M H v (.list (ns.map PyData.int))) : ∃ a, v = .ref a ∧ ¬ M a ∧ H a = some (.lst (ns.map V.int)) := by
  obtain ⟨a, xs, e, m, h1, h2⟩ := h.list_inv
  rw [h2.of_ints] at h1
  exact ⟨a, e, m, h1⟩
theorem Dd.mk_tup {a : Addr} {ns : List Int} (m : ¬ M a) (h : H a = some (.tup (ns.map V.int))) : Dd M H (.ref a) (.tuple (ns.map PyData.int)) := .tup m h (DdAll.ints ns)
theorem Dd.mk_ints {a : Addr} {ns : List Int} (m : ¬ M a) (h : H a = some (.lst (ns.map V.int))) : Dd M H (.ref a) (.list (ns.map PyData.int)) := .lst m h (DdAll.ints ns)
end
end Tt
/-! Plain mathematics: forests, links, walks over them, sums. No program in sight. -/
namespace Tt
abbrev Edge := Nat × Nat
abbrev Link := Nat × Int × Nat
abbrev Stp := Nat × Int
abbrev Walk := List Stp
def EdgesIn (n : Nat) (es : List Edge) : Prop := ∀ i, i < es.length → (es.getD i (0, 0)).1 < n ∧ (es.getD i (0, 0)).2 < n

/-! ### the forest -/
def relab (gs : List Nat) (t h : Nat) : List Nat := gs.map fun g => if g = gs.getD h 0 then gs.getD t 0 else g
def fStep (s : List Nat × List Nat) (i : Nat) (e : Edge) : List Nat × List Nat :=
  if s.1.getD e.1 0 ≠ s.1.getD e.2 0 then (relab s.1 e.1 e.2, s.2 ++ [i]) else s
def fSt (n : Nat) (es : List Edge) : Nat → List Nat × List Nat
  | 0 => (List.range n, [])
  | k + 1 => fStep (fSt n es k) k (es.getD k (0, 0))
def forest (n : Nat) (es : List Edge) : List Nat := (fSt n es es.length).2

theorem getD_map {α β : Type} (f : α → β) (l : List α) (i : Nat) (d : α) (d' : β) (h : i < l.length) : (l.map f).getD i d' = f (l.getD i d) := by
  simp [List.getD, List.getElem?_map, List.getElem?_eq_getElem h]
theorem getD_set_eq {α : Type} (l : List α) (i : Nat) (x d : α) (h : i < l.length) : (l.set i x).getD i d = x := by
  simp [List.getD, List.getElem?_set_self h]
theorem getD_set_ne {α : Type} (l : List α) (i j : Nat) (x d : α) (h : i ≠ j) : (l.set i x).getD j d = l.getD j d := by
  simp [List.getD, List.getElem?_set_ne h]
theorem fSt_len (n : Nat) (es : List Edge) : ∀ k, (fSt n es k).1.length = n
  | 0 => by simp [fSt]
  | k + 1 => by
    have ih := fSt_len n es k
    show (fStep (fSt n es k) k (es.getD k (0, 0))).1.length = n
    unfold fStep
    split
    · simp [relab, ih]
    · exact ih
/-- S is closed under the edges of F -/
def ClosedF (es : List Edge) (F : List Nat) (S : Nat → Prop) : Prop := ∀ i, i ∈ F → (S (es.getD i (0, 0)).1 ↔ S (es.getD i (0, 0)).2)
structure FInv (n : Nat) (es : List Edge) (k : Nat) (gs F : List Nat) : Prop where
  same : ∀ j, j < k → gs.getD (es.getD j (0, 0)).1 0 = gs.getD (es.getD j (0, 0)).2 0
  conn : ∀ a b, a < n → b < n → gs.getD a 0 = gs.getD b 0 → ∀ S, ClosedF es F S → (S a ↔ S b)
  lt : ∀ i, i ∈ F → i < k
theorem fInv (n : Nat) (es : List Edge) (he : EdgesIn n es) : ∀ k, k ≤ es.length → FInv n es k (fSt n es k).1 (fSt n es k).2
  | 0, _ => by
    refine ⟨fun j h => absurd h (Nat.not_lt_zero _), fun a b ha hb e S _ => ?_, fun i h => ?_⟩
    · have e1 : (List.range n).getD a 0 = a := by simp [List.getD, List.getElem?_range ha]
      have e2 : (List.range n).getD b 0 = b := by simp [List.getD, List.getElem?_range hb]
      have e3 : (List.range n).getD a 0 = (List.range n).getD b 0 := e
      rw [e1, e2] at e3
      rw [e3]
    · exact absurd h (List.not_mem_nil)
  | k + 1, hk => by
    have I := fInv n es he k (by omega)
    have hl := fSt_len n es k
    show FInv n es (k + 1) (fStep (fSt n es k) k (es.getD k (0, 0))).1 (fStep (fSt n es k) k (es.getD k (0, 0))).2
    obtain ⟨ht, hh⟩ := he k (by omega)
    generalize hgs : (fSt n es k).1 = gs at *
    generalize hF : (fSt n es k).2 = F at *
    have hs : fSt n es k = (gs, F) := by rw [← hgs, ← hF]
    rw [hs]
    unfold fStep
    generalize hE : es.getD k (0, 0) = e at *
    by_cases c : gs.getD e.1 0 ≠ gs.getD e.2 0
    · rw [if_pos c]
      have rl : ∀ a, a < n → (relab gs e.1 e.2).getD a 0 = if gs.getD a 0 = gs.getD e.2 0 then gs.getD e.1 0 else gs.getD a 0 := fun a ha => by
        unfold relab
        rw [getD_map _ _ _ 0 0 (by omega)]
      refine ⟨fun j hj => ?_, fun a b ha hb q S hS => ?_, fun i hi => ?_⟩
      · by_cases hjk : j = k
        · subst hjk
          rw [hE]
          show (relab gs e.1 e.2).getD e.1 0 = (relab gs e.1 e.2).getD e.2 0
          rw [rl _ ht, rl _ hh, if_neg c, if_pos rfl]
        · have q := I.same j (by omega)
          obtain ⟨h1, h2⟩ := he j (by omega)
          show (relab gs e.1 e.2).getD _ 0 = (relab gs e.1 e.2).getD _ 0
          rw [rl _ h1, rl _ h2, q]
      · have q' : (relab gs e.1 e.2).getD a 0 = (relab gs e.1 e.2).getD b 0 := q
        rw [rl _ ha, rl _ hb] at q'
        have hS' : ClosedF es F S := fun i hi => hS i (List.mem_append_left _ hi)
        have hth : S e.1 ↔ S e.2 := by
          have z := hS k (List.mem_append_right _ (List.mem_singleton.mpr rfl))
          rw [hE] at z
          exact z
        have C := I.conn
        by_cases ca : gs.getD a 0 = gs.getD e.2 0
        · by_cases cb : gs.getD b 0 = gs.getD e.2 0
          · exact C a b ha hb (ca.trans cb.symm) S hS'
          · rw [if_pos ca, if_neg cb] at q'
            exact (C a e.2 ha hh ca S hS').trans (hth.symm.trans (C e.1 b ht hb q' S hS'))
        · by_cases cb : gs.getD b 0 = gs.getD e.2 0
          · rw [if_neg ca, if_pos cb] at q'
            exact (C a e.1 ha ht q' S hS').trans (hth.trans (C e.2 b hh hb cb.symm S hS'))
          · rw [if_neg ca, if_neg cb] at q'
            exact C a b ha hb q' S hS'
      · rcases List.mem_append.mp hi with z | z
        · have := I.lt i z; omega
        · have := List.mem_singleton.mp z; omega
    · rw [if_neg c]
      refine ⟨fun j hj => ?_, I.conn, fun i hi => ?_⟩
      · by_cases hjk : j = k
        · subst hjk
          rw [hE]
          exact Classical.not_not.mp c
        · exact I.same j (by omega)
      · have := I.lt i hi; omega
/-- the forest spans: what is closed under its edges is closed under every edge -/
theorem forest_spans {n : Nat} {es : List Edge} (he : EdgesIn n es) {S : Nat → Prop} (hS : ClosedF es (forest n es) S) {i : Nat} (hi : i < es.length) : S (es.getD i (0, 0)).1 ↔ S (es.getD i (0, 0)).2 := by
  have I := fInv n es he es.length (Nat.le_refl _)
  obtain ⟨h1, h2⟩ := he i hi
  exact I.conn _ _ h1 h2 (I.same i hi) S hS
theorem forest_lt {n : Nat} {es : List Edge} (he : EdgesIn n es) {i : Nat} (hi : i ∈ forest n es) : i < es.length := (fInv n es he es.length (Nat.le_refl _)).lt i hi

/-! ### the links -/
def push (ls : List (List Link)) (a : Nat) (l : Link) : List (List Link) := ls.set a (ls.getD a [] ++ [l])
def lStep (es : List Edge) (ls : List (List Link)) (i : Nat) : List (List Link) :=
  push (push ls (es.getD i (0, 0)).1 (i, 1, (es.getD i (0, 0)).2)) (es.getD i (0, 0)).2 (i, -1, (es.getD i (0, 0)).1)
def links (n : Nat) (es : List Edge) (F : List Nat) : List (List Link) := F.foldl (lStep es) (List.replicate n [])
theorem push_len (ls : List (List Link)) (a : Nat) (l : Link) : (push ls a l).length = ls.length := by simp [push]
theorem lStep_len (es : List Edge) (ls : List (List Link)) (i : Nat) : (lStep es ls i).length = ls.length := by simp [lStep, push_len]
theorem foldl_lStep_len (es : List Edge) : ∀ (F : List Nat) (ls : List (List Link)), (F.foldl (lStep es) ls).length = ls.length
  | [], _ => rfl
  | i :: F, ls => by
    show (F.foldl (lStep es) (lStep es ls i)).length = _
    rw [foldl_lStep_len es F, lStep_len]
theorem links_len (n : Nat) (es : List Edge) (F : List Nat) : (links n es F).length = n := by
  unfold links
  rw [foldl_lStep_len, List.length_replicate]
theorem mem_push {ls : List (List Link)} {a b : Nat} {l x : Link} (ha : a < ls.length) : x ∈ (push ls a l).getD b [] ↔ x ∈ ls.getD b [] ∨ (b = a ∧ x = l) := by
  unfold push
  by_cases h : a = b
  · subst h
    rw [getD_set_eq _ _ _ _ ha, List.mem_append, List.mem_singleton]
    constructor
    · rintro (h | h)
      · exact .inl h
      · exact .inr ⟨rfl, h⟩
    · rintro (h | ⟨_, h⟩)
      · exact .inl h
      · exact .inr h
  · rw [getD_set_ne _ _ _ _ _ h]
    constructor
    · exact .inl
    · rintro (z | ⟨z, _⟩)
      · exact z
      · exact absurd z.symm h
/-- what a link says of its edge -/
def LinkOf (es : List Edge) (a : Nat) (l : Link) : Prop := (l.2.1 = 1 ∧ es.getD l.1 (0, 0) = (a, l.2.2)) ∨ (l.2.1 = -1 ∧ es.getD l.1 (0, 0) = (l.2.2, a))
theorem mem_links_fold {n : Nat} {es : List Edge} (he : EdgesIn n es) : ∀ (F : List Nat) (ls : List (List Link)), ls.length = n → (∀ i, i ∈ F → i < es.length) → ∀ (a : Nat) (l : Link),
    (l ∈ (F.foldl (lStep es) ls).getD a [] ↔ l ∈ ls.getD a [] ∨ (l.1 ∈ F ∧ LinkOf es a l))
  | [], ls, _, _, a, l => by simp
  | i :: F, ls, hl, hF, a, l => by
    obtain ⟨h1, h2⟩ := he i (hF i (List.mem_cons_self ..))
    have ih := mem_links_fold he F (lStep es ls i) (by rw [lStep_len, hl]) (fun j hj => hF j (List.mem_cons_of_mem _ hj)) a l
    show l ∈ (F.foldl (lStep es) (lStep es ls i)).getD a [] ↔ _
    rw [ih]
    unfold lStep
    rw [mem_push (by rw [push_len]; omega), mem_push (by omega)]
    generalize hE : es.getD i (0, 0) = e at *
    obtain ⟨l1, l2, l3⟩ := l
    obtain ⟨t, h⟩ := e
    simp only [LinkOf, List.mem_cons, Prod.mk.injEq]
    constructor
    · rintro (((q | q) | q) | q)
      · exact .inl q
      · obtain ⟨rfl, rfl, rfl, rfl⟩ := q
        exact .inr ⟨.inl rfl, .inl ⟨rfl, hE⟩⟩
      · obtain ⟨rfl, rfl, rfl, rfl⟩ := q
        exact .inr ⟨.inl rfl, .inr ⟨rfl, hE⟩⟩
      · exact .inr ⟨.inr q.1, q.2⟩
    · rintro (q | ⟨q1 | q1, q2⟩)
      · exact .inl (.inl (.inl q))
      · subst q1
        rw [hE] at q2
        simp only [Prod.mk.injEq] at q2
        rcases q2 with ⟨rfl, rfl, rfl⟩ | ⟨rfl, rfl, rfl⟩
        · exact .inl (.inl (.inr ⟨rfl, rfl, rfl, rfl⟩))
        · exact .inl (.inr ⟨rfl, rfl, rfl, rfl⟩)
      · exact .inr ⟨q1, q2⟩
theorem mem_links {n : Nat} {es : List Edge} (he : EdgesIn n es) {F : List Nat} (hF : ∀ i, i ∈ F → i < es.length) {a : Nat} {l : Link} : l ∈ (links n es F).getD a [] ↔ (l.1 ∈ F ∧ LinkOf es a l) := by
  unfold links
  rw [mem_links_fold he F _ (List.length_replicate ..) hF]
  constructor
  · rintro (h | h)
    · exfalso
      by_cases ha : a < n
      · have e : (List.replicate n ([] : List Link)).getD a [] = [] := by simp [List.getD, ha]
        rw [e] at h
        exact absurd h List.not_mem_nil
      · have e : (List.replicate n ([] : List Link)).getD a [] = [] := by simp [List.getD, ha]
        rw [e] at h
        exact absurd h List.not_mem_nil
    · exact h
  · exact .inr

/-! ### walks along links -/
abbrev Pths := List (Nat × Walk)
def phas (ps : Pths) (n : Nat) : Bool := ps.any fun p => p.1 == n
def pget (ps : Pths) (n : Nat) : Walk := ((ps.find? fun p => p.1 == n).map (·.2)).getD []
def vLink (node : Nat) (s : Pths × List Nat) (l : Link) : Pths × List Nat :=
  if phas s.1 l.2.2 = true then s else (s.1 ++ [(l.2.2, pget s.1 node ++ [(l.1, l.2.1)])], s.2 ++ [l.2.2])
def vNode (ls : List (List Link)) (s : Pths × List Nat) (node : Nat) : Pths × List Nat := (ls.getD node []).foldl (vLink node) s
def vRound (ls : List (List Link)) (s : Pths × List Nat) : Pths × List Nat := s.2.foldl (vNode ls) (s.1, [])
def bfs (ls : List (List Link)) (start : Nat) : Nat → Pths × List Nat
  | 0 => ([(start, [])], [start])
  | k + 1 => vRound ls (bfs ls start k)
def walkPaths (ls : List (List Link)) (start : Nat) : Pths := (bfs ls start ls.length).1

theorem phas_iff {ps : Pths} {n : Nat} : phas ps n = true ↔ n ∈ ps.map (·.1) := by
  unfold phas
  rw [List.any_eq_true]
  constructor
  · rintro ⟨p, hp, e⟩
    exact List.mem_map.mpr ⟨p, hp, by simpa using e⟩
  · intro h
    obtain ⟨p, hp, e⟩ := List.mem_map.mp h
    exact ⟨p, hp, by simpa using e⟩
theorem pget_mem {ps : Pths} {n : Nat} (h : phas ps n = true) : (n, pget ps n) ∈ ps := by
  unfold phas at h
  unfold pget
  cases e : ps.find? fun p => p.1 == n with
  | none =>
    rw [List.find?_eq_none] at e
    obtain ⟨p, hp, q⟩ := List.any_eq_true.mp h
    exact absurd q (e p hp)
  | some p =>
    have h1 := List.mem_of_find?_eq_some e
    have h2 := List.find?_some e
    have h3 : p.1 = n := by simpa using h2
    subst h3
    exact h1
theorem pget_of_mem {ps : Pths} (nd : (ps.map (·.1)).Nodup) {n : Nat} {w : Walk} (h : (n, w) ∈ ps) : pget ps n = w := by
  have h1 := pget_mem (phas_iff.mpr (List.mem_map.mpr ⟨(n, w), h, rfl⟩))
  generalize pget ps n = v at h1
  induction ps with
  | nil => exact absurd h List.not_mem_nil
  | cons p r ih =>
    have nd' : (p.1 :: r.map (·.1)).Nodup := nd
    obtain ⟨n1, n2⟩ := List.nodup_cons.mp nd'
    rcases List.mem_cons.mp h with a | a
    · rcases List.mem_cons.mp h1 with b | b
      · rw [← a] at b
        exact (Prod.mk.inj b).2
      · exact absurd (List.mem_map.mpr ⟨_, b, by rw [← a]⟩) n1
    · rcases List.mem_cons.mp h1 with b | b
      · exact absurd (List.mem_map.mpr ⟨_, a, by rw [← b]⟩) n1
      · exact ih n2 a b
/-- a walk along the links from a to b -/
inductive Along (ls : List (List Link)) (a : Nat) : Walk → Nat → Prop where
  | nil : Along ls a [] a
  | snoc {w : Walk} {b : Nat} {l : Link} (h : Along ls a w b) (hl : l ∈ ls.getD b []) : Along ls a (w ++ [(l.1, l.2.1)]) l.2.2
/-- what holds of the paths found so far: B bounds the nodes -/
structure PInv (ls : List (List Link)) (start : Nat) (ps : Pths) : Prop where
  st : start ∈ ps.map (·.1)
  nd : (ps.map (·.1)).Nodup
  al : ∀ p, p ∈ ps → Along ls start p.2 p.1
  lt : ∀ p, p ∈ ps → p.1 < ls.length
def LinksIn (ls : List (List Link)) : Prop := ∀ a l, l ∈ ls.getD a [] → l.2.2 < ls.length
/-- within a round: lv the new level so far; every key is old or in lv; ps grows -/
structure RInv (ls : List (List Link)) (start : Nat) (old ps : Pths) (lv : List Nat) : Prop where
  inv : PInv ls start ps
  ext : ∃ new : Pths, ps = old ++ new ∧ new.map (·.1) = lv
theorem vLink_inv {ls : List (List Link)} {start node : Nat} {old : Pths} (hin : LinksIn ls) {s : Pths × List Nat} {l : Link} (hl : l ∈ ls.getD node []) (hn : node ∈ s.1.map (·.1)) (R : RInv ls start old s.1 s.2) :
    RInv ls start old (vLink node s l).1 (vLink node s l).2 ∧ (∀ n, n ∈ s.1.map (·.1) → n ∈ (vLink node s l).1.map (·.1)) ∧ l.2.2 ∈ (vLink node s l).1.map (·.1) := by
  unfold vLink
  by_cases c : phas s.1 l.2.2 = true
  · rw [if_pos c]
    exact ⟨R, fun _ h => h, phas_iff.mp c⟩
  · rw [if_neg c]
    obtain ⟨⟨i1, i2, i3, i4⟩, new, e1, e2⟩ := R
    have cn : ¬ l.2.2 ∈ s.1.map (·.1) := fun z => c (phas_iff.mpr z)
    refine ⟨⟨⟨?_, ?_, fun p hp => ?_, fun p hp => ?_⟩, new ++ [(l.2.2, pget s.1 node ++ [(l.1, l.2.1)])], ?_, ?_⟩, fun n h => ?_, ?_⟩
    · simp only [List.map_append, List.mem_append]
      exact .inl i1
    · simp only [List.map_append]
      refine List.nodup_append.mpr ⟨i2, by simp, fun a ha b hb => ?_⟩
      have : b = l.2.2 := by simpa using hb
      subst this
      exact fun z => cn (z ▸ ha)
    · rcases List.mem_append.mp hp with z | z
      · exact i3 p z
      · have : p = (l.2.2, pget s.1 node ++ [(l.1, l.2.1)]) := by simpa using z
        subst this
        exact .snoc (i3 _ (pget_mem (phas_iff.mpr hn))) hl
    · rcases List.mem_append.mp hp with z | z
      · exact i4 p z
      · have : p = (l.2.2, pget s.1 node ++ [(l.1, l.2.1)]) := by simpa using z
        subst this
        exact hin _ _ hl
    · simp only [e1, List.append_assoc]
    · simp only [List.map_append, e2, List.map_cons, List.map_nil]
    · simp only [List.map_append, List.mem_append]
      exact .inl h
    · simp
theorem vLinks_inv {ls : List (List Link)} {start node : Nat} {old : Pths} (hin : LinksIn ls) : ∀ (L : List Link) (s : Pths × List Nat), (∀ l, l ∈ L → l ∈ ls.getD node []) → node ∈ s.1.map (·.1) → RInv ls start old s.1 s.2 →
    RInv ls start old (L.foldl (vLink node) s).1 (L.foldl (vLink node) s).2 ∧ (∀ n, n ∈ s.1.map (·.1) → n ∈ (L.foldl (vLink node) s).1.map (·.1)) ∧ ∀ l, l ∈ L → l.2.2 ∈ (L.foldl (vLink node) s).1.map (·.1)
  | [], s, _, _, R => ⟨R, fun _ h => h, fun l h => absurd h List.not_mem_nil⟩
  | l :: L, s, hL, hn, R => by
    obtain ⟨R1, k1, k2⟩ := vLink_inv hin (hL l (List.mem_cons_self ..)) hn R
    obtain ⟨R2, k3, k4⟩ := vLinks_inv hin L (vLink node s l) (fun x hx => hL x (List.mem_cons_of_mem _ hx)) (k1 _ hn) R1
    refine ⟨R2, fun n h => k3 n (k1 n h), fun x hx => ?_⟩
    rcases List.mem_cons.mp hx with e | e
    · subst e
      exact k3 _ k2
    · exact k4 x e
theorem vNodes_inv {ls : List (List Link)} {start : Nat} {old : Pths} (hin : LinksIn ls) : ∀ (L : List Nat) (s : Pths × List Nat), (∀ n, n ∈ L → n ∈ s.1.map (·.1)) → RInv ls start old s.1 s.2 →
    RInv ls start old (L.foldl (vNode ls) s).1 (L.foldl (vNode ls) s).2 ∧ (∀ n, n ∈ s.1.map (·.1) → n ∈ (L.foldl (vNode ls) s).1.map (·.1)) ∧ ∀ n, n ∈ L → ∀ l, l ∈ ls.getD n [] → l.2.2 ∈ (L.foldl (vNode ls) s).1.map (·.1)
  | [], s, _, R => ⟨R, fun _ h => h, fun l h => absurd h List.not_mem_nil⟩
  | n :: L, s, hL, R => by
    obtain ⟨R1, k1, k2⟩ := vLinks_inv hin (ls.getD n []) s (fun _ h => h) (hL n (List.mem_cons_self ..)) R
    obtain ⟨R2, k3, k4⟩ := vNodes_inv hin L (vNode ls s n) (fun x hx => k1 x (hL x (List.mem_cons_of_mem _ hx))) R1
    refine ⟨R2, fun x h => k3 x (k1 x h), fun x hx => ?_⟩
    rcases List.mem_cons.mp hx with e | e
    · subst e
      exact fun l hl => k3 _ (k2 l hl)
    · exact k4 x e
/-- after k rounds -/
structure BInv (ls : List (List Link)) (start k : Nat) (ps : Pths) (lv : List Nat) : Prop where
  inv : PInv ls start ps
  sub : ∀ n, n ∈ lv → n ∈ ps.map (·.1)
  cl : ∀ n, n ∈ ps.map (·.1) → n ∉ lv → ∀ l, l ∈ ls.getD n [] → l.2.2 ∈ ps.map (·.1)
  many : lv ≠ [] → k + 1 ≤ ps.length
theorem vRound_inv {ls : List (List Link)} {start k : Nat} (hin : LinksIn ls) {s : Pths × List Nat} (B : BInv ls start k s.1 s.2) : BInv ls start (k + 1) (vRound ls s).1 (vRound ls s).2 := by
  obtain ⟨i, sub, cl, many⟩ := B
  obtain ⟨R, k1, k2⟩ := vNodes_inv (start := start) (old := s.1) hin s.2 (s.1, []) sub ⟨i, [], by simp, rfl⟩
  obtain ⟨i', new, e1, e2⟩ := R
  unfold vRound
  generalize hr : List.foldl (vNode ls) (s.1, []) s.2 = r at *
  refine ⟨i', fun n hn => ?_, fun n hn hl l hll => ?_, fun h => ?_⟩
  · rw [e1, List.map_append, List.mem_append, e2]
    exact .inr hn
  · rw [e1, List.map_append, List.mem_append, e2] at hn
    rcases hn with hn | hn
    · by_cases c : n ∈ s.2
      · exact k2 n c l hll
      · exact k1 _ (cl n hn c l hll)
    · exact absurd hn hl
  · have h0 : s.2 ≠ [] := by
      intro z
      rw [z] at hr
      have : r.2 = [] := by rw [← hr]; rfl
      exact h this
    have := many h0
    have h1 : 0 < new.length := by
      rw [← List.length_map (as := new) (·.1), e2]
      exact List.length_pos_iff.mpr h
    rw [e1, List.length_append]
    omega
theorem bfs_inv {ls : List (List Link)} {start : Nat} (hin : LinksIn ls) (hs : start < ls.length) : ∀ k, BInv ls start k (bfs ls start k).1 (bfs ls start k).2
  | 0 => by
    refine ⟨⟨by simp [bfs], by simp [bfs], fun p hp => ?_, fun p hp => ?_⟩, fun n hn => ?_, fun n hn hl => ?_, fun _ => by simp [bfs]⟩
    · have : p = (start, []) := by simpa [bfs] using hp
      subst this
      exact .nil
    · have : p = (start, []) := by simpa [bfs] using hp
      subst this
      exact hs
    · simpa [bfs] using hn
    · exact absurd (by simpa [bfs] using hn) hl
  | k + 1 => vRound_inv hin (bfs_inv hin hs k)
theorem nodup_lt_length : ∀ (n : Nat) (l : List Nat), l.Nodup → (∀ x, x ∈ l → x < n) → l.length ≤ n
  | 0, l, _, h => by
    cases l with
    | nil => exact Nat.le_refl _
    | cons a r => exact absurd (h a (List.mem_cons_self ..)) (Nat.not_lt_zero _)
  | n + 1, l, nd, h => by
    have ih := nodup_lt_length n (l.filter fun x => x != n) (nd.filter _) fun x hx => by
      obtain ⟨a, b⟩ := List.mem_filter.mp hx
      have := h x a
      have : x ≠ n := by simpa using b
      omega
    have hc : (l.filter fun x => x == n).length ≤ 1 := by
      have : (l.filter fun x => x == n) = List.replicate (l.count n) n := by rw [List.filter_beq]
      rw [this, List.length_replicate]
      exact List.nodup_iff_count.mp nd n
    have hs : l.length = (l.filter fun x => x == n).length + (l.filter fun x => x != n).length := by
      clear ih hc nd h
      induction l with
      | nil => rfl
      | cons a r ih =>
        by_cases c : a = n
        · subst c; simp; omega
        · simp [c]; omega
    omega
theorem bfs_end {ls : List (List Link)} {start : Nat} (hin : LinksIn ls) (hs : start < ls.length) {k : Nat} (hk : ls.length ≤ k) : (bfs ls start k).2 = [] := by
  have B := bfs_inv (start := start) hin hs k
  by_cases h : (bfs ls start k).2 = []
  · exact h
  · have h1 := B.many h
    have h2 := nodup_lt_length ls.length ((bfs ls start k).1.map (·.1)) B.inv.nd fun x hx => by
      obtain ⟨p, hp, e⟩ := List.mem_map.mp hx
      rw [← e]
      exact B.inv.lt p hp
    rw [List.length_map] at h2
    omega
theorem bfs_stay {ls : List (List Link)} {start k : Nat} (h : (bfs ls start k).2 = []) : ∀ j, bfs ls start (k + j) = bfs ls start k
  | 0 => rfl
  | j + 1 => by
    show vRound ls (bfs ls start (k + j)) = _
    rw [bfs_stay h j]
    generalize bfs ls start k = s at *
    obtain ⟨a, b⟩ := s
    have e : b = [] := h
    subst e
    rfl
/-- where a round's end has an empty level, all is found -/
theorem bfs_done {ls : List (List Link)} {start k : Nat} (hin : LinksIn ls) (hs : start < ls.length) (h : (bfs ls start k).2 = []) : (bfs ls start k).1 = walkPaths ls start := by
  unfold walkPaths
  have e := bfs_end (start := start) hin hs (Nat.le_refl ls.length)
  by_cases c : k ≤ ls.length
  · obtain ⟨j, hj⟩ : ∃ j, ls.length = k + j := ⟨ls.length - k, by omega⟩
    rw [hj, bfs_stay h j]
  · obtain ⟨j, hj⟩ : ∃ j, k = ls.length + j := ⟨k - ls.length, by omega⟩
    rw [hj, bfs_stay e j]
theorem walkPaths_inv {ls : List (List Link)} {start : Nat} (hin : LinksIn ls) (hs : start < ls.length) : PInv ls start (walkPaths ls start) := (bfs_inv hin hs ls.length).inv
theorem walkPaths_closed {ls : List (List Link)} {start : Nat} (hin : LinksIn ls) (hs : start < ls.length) {n : Nat} (hn : n ∈ (walkPaths ls start).map (·.1)) {l : Link} (hl : l ∈ ls.getD n []) : l.2.2 ∈ (walkPaths ls start).map (·.1) := by
  refine (bfs_inv hin hs ls.length).cl n hn ?_ l hl
  rw [bfs_end hin hs (Nat.le_refl _)]
  exact List.not_mem_nil
end Tt
set_option Elab.async false
set_option linter.all false
set_option maxRecDepth 100000
set_option maxHeartbeats 4000000
/-! A def that keeps its promise; data of this program; the small defs. -/
namespace Tt
open PySem PySem.Spec PyProof.Rows L2 He
structure Gd (P : Program) (w : World) (K : PySem.W.Frag) (mg : Str → Option Value) (base : Heap) (k : Nat) (f : Addr) (ps : List Str) (sp : Sp) : Prop where
  ex : ∃ fd, FnOk P w K mg base CX0 k f fd ps sp ∧ Binds K fd ps []
  kp : PySem.W.keepIn K (.ref f) = true
section
variable {P : Program} {w : World} {K : PySem.W.Frag} {mg : Str → Option Value} {base : Heap}
theorem Gd.mono {j k : Nat} {f : Addr} {ps : List Str} {sp : Sp} (g : Gd P w K mg base j f ps sp) (h : j ≤ k) : Gd P w K mg base k f ps sp := by
  obtain ⟨⟨fd, G, b⟩, kp⟩ := g
  exact ⟨⟨fd, G.mono h, b⟩, kp⟩
theorem gd_of {x qual : Str} {st : Stmt} {f : Addr} {N ps : List Str} {k : Nat} {sp : Sp} (F : ∃ fd, FunD K x qual (defArgs st) (defBody st) (defScope st) [] [] f fd) (S : FnScope N ps (defScope st))
    (bd : ∀ (kV doc pm : Value) (an : Option Addr) (cdv ct : Value) (us : List Value), us.length = ps.length → bindArgs (PySem.W.fnOf x qual (defArgs st) (defBody st) (defScope st) .none kV doc pm an cdv ct) ⟨us, []⟩ = pure (ps.zip us))
    (len : ∀ vs H Q E, sp vs H Q E → vs.length = ps.length)
    (hbody : ∀ (cdv : Value) (A : Around) (outer : List Env) (s : Shared) (H : Hp) (vs : List V) (Q : VK) (E : XK), Room k (A.deeper (envOfC qual (defScope st) s.heap.objs.size f cdv)) → sp vs H Q E →
      ∃ t, PSs (cxOf CX0 P w K mg base N qual (defScope st) f cdv A outer s H E).nox (defBody st) t ∧ t { nx := fun _ H' => Q .non H', rt := Q } (start N vs) H) : Gd P w K mg base (k + 1) f ps sp := by
  obtain ⟨fd, F⟩ := F
  refine ⟨⟨fd, F.ok S len fun cdv A outer s H vs Q E hr h => ?_, F.bindsN bd⟩, F.kp⟩
  obtain ⟨t, h1, h2⟩ := hbody cdv A outer s H vs Q E hr h
  exact ⟨t, h1.nox, h2⟩
end
section
variable {X : Cx} {k : Nat} {f C : Addr} {ps : List Str} {sp : Sp} {x m : Str} {p pos apos : Pos} {e o : Expr} {es : List Expr} {t : TA} {ta : TE}
theorem pe_callG (g : Gd X.prog X.w X.K X.mg X.base k f ps sp) (hr : Room k X.A) (hg : Gl X x) (hm : X.mg x = some (.ref f)) (ha : PA X (e :: es) t)
    (hdb : (x == ("__debug__" : Str)) = false := by decide) (he : starEach (e :: es) X.env = (false, eval e X.env) :: starEach es X.env := by rfl) (hpl : (backTo pos (starEach es X.env)).any (·.1) = false := by rfl) :
    PE X (.Call (.Name x p) (e :: es) [] pos) (tCall sp [] E0 t) := by
  obtain ⟨⟨fd, G, b⟩, kp⟩ := g
  exact pe_call G hr hg hm kp b .nil pass0 ha hdb he hpl
theorem pe_methG {pl : Sem Bool} (he : PE X o ta) (c : Cls X.K C) (hm : Meth X.K C m f) (g : Gd X.prog X.w X.K X.mg X.base k f ps sp) (hr : Room k X.A) (ha : PA X (e :: es) t)
    (hst : starEach (e :: es) X.env = (false, eval e X.env) :: starEach es X.env := by rfl) (hpl : (backTo pos (starEach es X.env)).any (·.1) = false := by rfl)
    (ht : eval (.Call (.Attribute o m apos) (e :: es) [] pos) X.env = (do
      let ov ← eval o X.env
      standAt apos.atName
      let (f, first) ← holding [ov] (getMethod ov m pl)
      callWith pos f first (backTo pos (starEach (e :: es) X.env)) (backToKw pos (keywordEach [] X.env))) := by rfl) :
    PE X (.Call (.Attribute o m apos) (e :: es) [] pos) (tMeth C m sp [] E0 ta t) := by
  obtain ⟨⟨fd, G, b⟩, kp⟩ := g
  exact pe_meth he c hm G hr b .nil pass0 ha hst hpl ht
theorem pe_methG0 {pl : Sem Bool} (he : PE X o ta) (c : Cls X.K C) (hm : Meth X.K C m f) (g : Gd X.prog X.w X.K X.mg X.base k f ps sp) (hr : Room k X.A)
    (ht : eval (.Call (.Attribute o m apos) [] [] pos) X.env = (do
      let ov ← eval o X.env
      standAt apos.atName
      let (f, first) ← holding [ov] (getMethod ov m pl)
      callWith pos f first (backTo pos (starEach [] X.env)) (backToKw pos (keywordEach [] X.env))) := by rfl) :
    PE X (.Call (.Attribute o m apos) [] [] pos) (tMeth C m sp [] E0 ta tNil) := by
  obtain ⟨⟨fd, G, b⟩, kp⟩ := g
  exact pe_meth0 he c hm G hr b .nil pass0 ht
theorem pe_makeG (M : Mk X.K C f) (g : Gd X.prog X.w X.K X.mg X.base k f ps sp) (hr : Room (k + 1) X.A) (hg : Gl X x) (hm : X.mg x = some (.ref C))
    (ha : PA X (e :: es) t) (hdb : (x == ("__debug__" : Str)) = false := by decide) (he : starEach (e :: es) X.env = (false, eval e X.env) :: starEach es X.env := by rfl) (hpl : (backTo pos (starEach es X.env)).any (·.1) = false := by rfl) :
    PE X (.Call (.Name x p) (e :: es) [] pos) (tMake C sp [] E0 t) := by
  obtain ⟨⟨fd, G, b⟩, kp⟩ := g
  exact pe_make M G hr hg hm b .nil pass0 ha hdb he hpl
/-- isinstance(e, T), T a built-in class by its name; isinstance(e, (T, U)) -/
theorem pe_isi {te : TE} {y : Str} (n : String) {p p2 : Pos} (he : PE X e te) (hg : Gl X "isinstance") (hm : X.mg "isinstance" = none) (hg2 : Gl X y) (hm2 : X.mg y = none) (hv : bootBuiltins y = some (.type n)) (hn : y ≠ "__name__" := by decide) (hdb : (y == ("__debug__" : Str)) = false := by decide)
    (hs : starEach [e, .Name y p2] X.env = (false, eval e X.env) :: starEach [.Name y p2] X.env := by rfl) : PE X (.Call (.Name "isinstance" p) [e, .Name y p2] [] pos) (tCB (rIsi X.K) (tCons te (tCons (tC (.ty n)) tNil))) :=
  pe_callB (X := X) (p := p) (pos := pos) call_isi hg hm (by decide +kernel) (pa_cons he (pa_cons (pe_bltn (v := .ty n) (u := .type n) (pos := p2) hg2 hm2 hv rfl hn hdb) pa_nil) hs) (by decide) (by decide) hs rfl
theorem pe_len {te : TE} {p : Pos} (he : PE X e te) (hg : Gl X "len") (hm : X.mg "len" = none) (hs : starEach [e] X.env = (false, eval e X.env) :: starEach [] X.env := by rfl) :
    PE X (.Call (.Name "len" p) [e] [] pos) (tCB (fun xs H Q => ∃ p ys, xs = [.ref p] ∧ (SqL X.K H p ys ∨ SqT X.K H p ys) ∧ Q (.int ys.length) H) (tCons te tNil)) :=
  pe_callB (X := X) (p := p) (pos := pos) call_len_seq hg hm PySem.boot_len (pa_cons he pa_nil hs) (by decide) (by decide) hs rfl
end
theorem iteY {c : Bool} {A B : Prop} (h : c = true) (x : A) : if c = true then A else B := by rw [if_pos h]; exact x
theorem iteN {c : Bool} {A B : Prop} (h : c = false) (x : B) : if c = true then A else B := by rw [if_neg (by rw [h]; exact Bool.false_ne_true)]; exact x
/-! ### the data of this program -/
def edgeD (e : Edge) : PyData := .tuple [.int (e.1 : Int), .int (e.2 : Int)]
def edgesD (es : List Edge) : PyData := .list (es.map edgeD)
def intsD (ns : List Int) : PyData := .list (ns.map PyData.int)
def natsD (ns : List Nat) : PyData := .list (ns.map fun (n : Nat) => PyData.int (n : Int))
def linkD (l : Link) : PyData := .tuple [.int (l.1 : Int), .int l.2.1, .int (l.2.2 : Int)]
def linksD (ls : List (List Link)) : PyData := .list (ls.map fun xs => .list (xs.map linkD))
def stepD (s : Stp) : PyData := .tuple [.int (s.1 : Int), .int s.2]
def walkD (w : Walk) : PyData := .list (w.map stepD)
def walksD (ws : List Walk) : PyData := .list (ws.map walkD)
def groupsD (gs : List (List Nat)) : PyData := .list (gs.map natsD)
section
variable {M : Ms} {H : Hp} {v : V}
theorem Dd.edge (e : Edge) (h : Dd M H v (edgeD e)) : ∃ a, v = .ref a ∧ H a = some (.tup [.int (e.1 : Int), .int (e.2 : Int)]) := Dd.tup_ints (ns := [(e.1 : Int), (e.2 : Int)]) h
theorem Dd.link (l : Link) (h : Dd M H v (linkD l)) : ∃ a, v = .ref a ∧ H a = some (.tup [.int (l.1 : Int), .int l.2.1, .int (l.2.2 : Int)]) := Dd.tup_ints (ns := [(l.1 : Int), l.2.1, (l.2.2 : Int)]) h
theorem Dd.stp (s : Stp) (h : Dd M H v (stepD s)) : ∃ a, v = .ref a ∧ H a = some (.tup [.int (s.1 : Int), .int s.2]) := Dd.tup_ints (ns := [(s.1 : Int), s.2]) h
theorem mk_edge {a : Addr} (e : Edge) (m : ¬ M a) (h : H a = some (.tup [.int (e.1 : Int), .int (e.2 : Int)])) : Dd M H (.ref a) (edgeD e) := Dd.mk_tup (ns := [(e.1 : Int), (e.2 : Int)]) m h
theorem mk_link {a : Addr} (l : Link) (m : ¬ M a) (h : H a = some (.tup [.int (l.1 : Int), .int l.2.1, .int (l.2.2 : Int)])) : Dd M H (.ref a) (linkD l) := Dd.mk_tup (ns := [(l.1 : Int), l.2.1, (l.2.2 : Int)]) m h
theorem mk_stp {a : Addr} (s : Stp) (m : ¬ M a) (h : H a = some (.tup [.int (s.1 : Int), .int s.2])) : Dd M H (.ref a) (stepD s) := Dd.mk_tup (ns := [(s.1 : Int), s.2]) m h
/-- a list of things: its address, its items -/
theorem Dd.items {α : Type} (f : α → PyData) (xs : List α) (h : Dd M H v (.list (xs.map f))) : ∃ a vs, v = .ref a ∧ ¬ M a ∧ H a = some (.lst vs) ∧ vs.length = xs.length ∧ DdAll M H vs (xs.map f) ∧ ∀ (i : Nat) (x : α), xs[i]? = some x → ∃ y, vs[i]? = some y ∧ Dd M H y (f x) := by
  obtain ⟨a, vs, e, m, h1, h2⟩ := h.list_inv
  refine ⟨a, vs, e, m, h1, by rw [h2.length, List.length_map], h2, fun i x hx => h2.get (by rw [List.getElem?_map, hx]; rfl)⟩
end
end Tt
set_option Elab.async false
set_option linter.all false
set_option maxRecDepth 100000
set_option maxHeartbeats 4000000
namespace Tt
open PySem PySem.Spec PyProof.Rows L2 He
section
variable {P : Program} {w : World} {K : PySem.W.Frag} {mg : Str → Option Value} {base : Heap}
def spIsInteger : Sp := fun vs H Q _ => vs.length = 1 ∧ ∃ i : Int, vs = [.int i] ∧ Q (.bl true) H
theorem sc_is_integer : FnScope ["thing"] ["thing"] (defScope s_is_integer) := ⟨rfl, rfl, rfl, by decide +kernel, rfl, by decide +kernel, by decide +kernel⟩
theorem ok_is_integer (T : Tx K mg) : Gd P w K mg base 1 (ga K "is_integer") ["thing"] spIsInteger := by
  refine gd_of T.f_is_integer sc_is_integer (fun _ _ _ _ _ _ us hl => match us, hl with | [_], _ => rfl) (fun _ _ _ _ h => h.1) (fun cdv A outer s H vs Q E hr h => ?_)
  obtain ⟨_, i, rfl, k⟩ := h
  -- return isinstance(thing, int) and (not isinstance(thing, bool))
  refine ⟨_, pss_one (ps_ret (pe_and (pe_callB call_isi (by rfl) T.n_isinstance (by decide +kernel) (pa_cons (pv 0) (pa_cons (pe_bltn (v := .ty "int") (u := .type "int") rfl T.n_int (by decide +kernel) rfl) pa_nil)))
    (pe_one (pe_not (pe_callB call_isi (by rfl) T.n_isinstance (by decide +kernel) (pa_cons (pv 0) (pa_cons (pe_bltn (v := .ty "bool") (u := .type "bool") rfl T.n_bool (by decide +kernel) rfl) pa_nil))))))), ?_⟩
  refine ⟨_, rfl, _, _, _, _, true, rfl, .ty _, .base (.int i), kit_ty (by decide +kernel), true, rfl, iteT ?_⟩
  exact ⟨_, rfl, _, _, _, _, false, rfl, .ty _, .base (.int i), kit_ty (by decide +kernel), false, rfl, k⟩
def spIsWithin : Sp := fun vs H Q _ => vs.length = 3 ∧ ∃ i a b : Int, vs = [.int i, .int a, .int b] ∧ Q (.bl (decide (a ≤ i) && decide (i ≤ b))) H
theorem sc_is_within : FnScope ["thing", "least", "most"] ["thing", "least", "most"] (defScope s_is_within) := ⟨rfl, rfl, rfl, by decide +kernel, rfl, by decide +kernel, by decide +kernel⟩
theorem ok_is_within (T : Tx K mg) : Gd P w K mg base 2 (ga K "is_within") ["thing", "least", "most"] spIsWithin := by
  have G1 : Gd P w K mg base 1 (ga K "is_integer") ["thing"] spIsInteger := ok_is_integer T
  refine gd_of T.f_is_within sc_is_within (fun _ _ _ _ _ _ us hl => match us, hl with | [_, _, _], _ => rfl) (fun _ _ _ _ h => h.1) (fun cdv A outer s H vs Q E hr h => ?_)
  obtain ⟨_, i, a, b, rfl, k⟩ := h
  -- return is_integer(thing) and least <= thing <= most
  refine ⟨_, pss_one (ps_ret (pe_and (pe_callG G1 hr rfl T.g_is_integer (pa_cons (pv 0) pa_nil)) (pe_one (pe_chain op_le op_le (pv 1) (pv 0) (pv 2))))), ?_⟩
  refine ⟨_, rfl, rfl, i, rfl, true, rfl, iteT ?_⟩
  refine ⟨_, rfl, _, rfl, _, _, rfl, rfl, _, rfl, ?_⟩
  refine ite2 (fun e => ?_) (fun e => ?_)
  · refine ⟨_, rfl, _, _, rfl, rfl, ?_⟩
    have e' : decide (a ≤ i) = true := e
    rw [e', Bool.true_and] at k
    exact k
  · have e' : decide (a ≤ i) = false := by
      have e2 : ¬ decide (a ≤ i) = true := e
      simpa using e2
    rw [e', Bool.false_and] at k
    exact k
/-- the tuple's two ends are nodes -/
def spIsEdge : Sp := fun vs H Q _ => vs.length = 2 ∧ ∃ (t : Addr) (a b n : Int), vs = [.ref t, .int n] ∧ H t = some (.tup [.int a, .int b]) ∧ 0 ≤ a ∧ a < n ∧ 0 ≤ b ∧ b < n ∧ Q (.bl true) H
theorem sc_is_edge : FnScope ["thing", "size"] ["thing", "size"] (defScope s_is_edge) := ⟨rfl, rfl, rfl, by decide +kernel, rfl, by decide +kernel, by decide +kernel⟩
theorem ok_is_edge (T : Tx K mg) : Gd P w K mg base 3 (ga K "is_edge") ["thing", "size"] spIsEdge := by
  have G1 : Gd P w K mg base 2 (ga K "is_within") ["thing", "least", "most"] spIsWithin := ok_is_within T
  refine gd_of T.f_is_edge sc_is_edge (fun _ _ _ _ _ _ us hl => match us, hl with | [_, _], _ => rfl) (fun _ _ _ _ h => h.1) (fun cdv A outer s H vs Q E hr h => ?_)
  obtain ⟨_, t, a, b, n, rfl, ht, a0, a1, b0, b1, k⟩ := h
  refine ⟨_, pss_cons (ps_if (PW.pt (pw_or (pt_not (pt_val (pe_isi "tuple" (pv 0) rfl T.n_isinstance rfl T.n_tuple (by decide +kernel)))) (pw_or1 (pt_cmpR op_ne (pe_len (pv 0) rfl T.n_len) pe_int (nomark _))))) (pss_one (ps_ret pe_bl)) pss_nil)
    (pss_one (ps_ret (pe_and (pe_callG G1 hr rfl T.g_is_within (pa_cons (pe_ix ix_tup (pv 0) pe_int (fun _ _ => rfl)) (pa_cons pe_int (pa_cons (pe_op op_sub (pv 1) pe_int) pa_nil))))
      (pe_one (pe_callG G1 hr rfl T.g_is_within (pa_cons (pe_ix ix_tup (pv 0) pe_int (fun _ _ => rfl)) (pa_cons pe_int (pa_cons (pe_op op_sub (pv 1) pe_int) pa_nil)))))))), ?_⟩
  refine ⟨_, rfl, _, _, _, _, true, rfl, .ty _, .base (.tup ht), kit_ty (by decide +kernel), true, rfl, iteF ?_⟩
  refine ⟨_, rfl, _, _, rfl, .inr (SqT.of ht), rfl, _, rfl, iteN (by rfl) ?_⟩
  refine ⟨_, rfl, _, _, _, _, rfl, rfl, SqT.of ht, (by rfl), _, rfl, _, _, rfl, rfl, rfl, a, 0, n - 1, rfl, _, rfl, iteY (by simp; omega) ?_⟩
  refine ⟨_, rfl, _, _, _, _, rfl, rfl, SqT.of ht, (by rfl), _, rfl, _, _, rfl, rfl, rfl, b, 0, n - 1, rfl, ?_⟩
  have e : (decide (0 ≤ b) && decide (b ≤ n - 1)) = true := by simp; omega
  rw [e]
  exact k
def spIsModulus : Sp := fun vs H Q _ => vs.length = 1 ∧ ∃ m : Int, vs = [.int m] ∧ 0 ≤ m ∧ m ≤ 60 ∧ m ≠ 1 ∧ Q (.bl true) H
theorem sc_is_modulus : FnScope ["thing"] ["thing"] (defScope s_is_modulus) := ⟨rfl, rfl, rfl, by decide +kernel, rfl, by decide +kernel, by decide +kernel⟩
theorem ok_is_modulus (T : Tx K mg) : Gd P w K mg base 3 (ga K "is_modulus") ["thing"] spIsModulus := by
  have G1 : Gd P w K mg base 2 (ga K "is_within") ["thing", "least", "most"] spIsWithin := ok_is_within T
  obtain ⟨t60, h60⟩ := T.i_MOST_MODULUS
  refine gd_of T.f_is_modulus sc_is_modulus (fun _ _ _ _ _ _ us hl => match us, hl with | [_], _ => rfl) (fun _ _ _ _ h => h.1) (fun cdv A outer s H vs Q E hr h => ?_)
  obtain ⟨_, m, rfl, m0, m1, m2, k⟩ := h
  refine ⟨_, pss_one (ps_ret (pe_and (pe_callG G1 hr rfl T.g_is_within (pa_cons (pv 0) (pa_cons pe_int (pa_cons (pe_glob (v := .int 60) rfl h60 ⟨_, rfl⟩) pa_nil)))) (pe_one (pe_cmpR op_ne (pv 0) pe_int (nomark _))))), ?_⟩
  refine ⟨_, rfl, rfl, m, 0, 60, rfl, _, rfl, iteY (by simp; omega) ?_⟩
  refine ⟨_, rfl, rfl, ?_⟩
  have e : (!decide (V.int m = V.int 1)) = true := by simp [m2]
  rw [e]
  exact k
def spCheckEdges : Sp := fun vs H Q _ => vs.length = 2 ∧ ∃ (M : Ms) (n : Nat) (v : V) (es : List Edge), vs = [.int n, v] ∧ Dd M H v (edgesD es) ∧ EdgesIn n es ∧ es.length ≤ 60 ∧ ∀ H', Same H H' → Q .non H'
theorem sc_check_edges : FnScope ["size", "edges", "edge"] ["size", "edges"] (defScope s_check_edges) := ⟨rfl, rfl, rfl, by decide +kernel, rfl, by decide +kernel, by decide +kernel⟩
theorem ok_check_edges (T : Tx K mg) : Gd P w K mg base 4 (ga K "check_edges") ["size", "edges"] spCheckEdges := by
  have G1 : Gd P w K mg base 3 (ga K "is_edge") ["thing", "size"] spIsEdge := ok_is_edge T
  obtain ⟨t60, h60⟩ := T.i_MOST_EDGES
  refine gd_of T.f_check_edges sc_check_edges (fun _ _ _ _ _ _ us hl => match us, hl with | [_, _], _ => rfl) (fun _ _ _ _ h => h.1) (fun cdv A outer s H vs Q E hr h => ?_)
  obtain ⟨_, M, n, v, es, rfl, hv, hin, hle, k⟩ := h
  obtain ⟨a, xs, rfl, hm, ha, hl, hall, hget⟩ := hv.items edgeD es
  refine ⟨_, pss_cons (ps_if (pt_not (pt_val (pe_callB call_isiT (by rfl) T.n_isinstance (by decide +kernel) (pa_cons (pv 1) (pa_cons (pe_tup (pa_cons (pe_bltn (v := .ty "list") (u := .type "list") rfl T.n_list (by decide +kernel) rfl) (pa_cons (pe_bltn (v := .ty "tuple") (u := .type "tuple") rfl T.n_tuple (by decide +kernel) rfl) pa_nil))) pa_nil))))) pss_never pss_nil)
    (pss_cons (ps_for PassesOwn.never rfl (pi_list (pv 1)) (pg_name (i := 2) sc_check_edges.nd rfl (Or.inl rfl)) (pss_one (ps_if (pt_not (pt_val (pe_callG G1 hr rfl T.g_is_edge (pa_cons (pv 2) (pa_cons (pv 0) pa_nil))))) pss_never pss_nil)))
    (pss_one (ps_if (pt_cmpR op_gt (pe_len (pv 1) rfl T.n_len) (pe_glob (v := .int 60) rfl h60 ⟨_, rfl⟩) (nomark _)) pss_never pss_nil))), ?_⟩
  refine ⟨_, rfl, (by show 2 ≤ sizeLine; decide), fun q hq => ?_⟩
  have s1 : Same H (upd H q (.tup [.ty "list", .ty "tuple"])) := Same.new hq
  refine ⟨_, _, _, _, _, true, rfl, upd_same, .cons (.ty _) (.cons (.ty _) .nil), .base (.lst (s1 _ _ ha)), kitAny_cons (b := true) (kit_ty (by decide +kernel)) (fun z => by cases z) (fun _ => rfl), true, rfl, iteF ?_⟩
  refine ⟨_, rfl, a, rfl, ⟨_, SqL.of (s1 _ _ ha)⟩, for_list (K := K) (a := a) (xs := xs) (fun i σ H2 => ∃ v, σ = [some (.int n), some (.ref a), v] ∧ H2 = upd H q (.tup [.ty "list", .ty "tuple"])) ⟨none, rfl, rfl⟩ (fun i σ H2 _ ⟨_, _, e⟩ => by rw [e]; exact SqL.of (s1 _ _ ha)) ?_ ?_⟩
  · rintro i y σ H2 hi ⟨v, rfl, rfl⟩
    obtain ⟨d, hd, hy⟩ := hall.at hi
    have hlt : i < es.length := by rw [← hl]; exact (List.getElem?_eq_some_iff.mp hi).1
    have hE : es[i]? = some (es.getD i (0, 0)) := by simp [List.getD, List.getElem?_eq_getElem hlt]
    have hd' : edgeD (es.getD i (0, 0)) = d := by
      rw [List.getElem?_map, hE] at hd
      exact Option.some.inj hd
    subst hd'
    obtain ⟨t, rfl, ht⟩ := Dd.edge _ hy
    obtain ⟨h1, h2⟩ := hin i hlt
    refine ⟨_, rfl, _, rfl, rfl, t, _, _, _, rfl, s1 _ _ ht, by omega, by omega, by omega, by omega, true, rfl, iteF ?_⟩
    exact ⟨_, rfl, rfl⟩
  · rintro σ H2 ⟨v, rfl, rfl⟩
    refine ⟨_, rfl, _, _, rfl, .inl (SqL.of (s1 _ _ ha)), _, _, rfl, rfl, _, rfl, iteN ?_ ?_⟩
    · have : ¬ ((60 : Int) < (xs.length : Int)) := by omega
      exact decide_eq_false this
    · exact k _ s1
end
end Tt
set_option Elab.async false
set_option linter.all false
set_option maxRecDepth 100000
set_option maxHeartbeats 4000000
/-! solving: reduced_number, forest_of, links_of -/
namespace Tt
open PySem PySem.Spec PyProof.Rows L2 He
/-! ### lists of nodes -/
def nv (n : Nat) : V := .int (n : Int)
def nvs (ns : List Nat) : List V := ns.map nv
theorem nvs_at {ns : List Nat} {i : Nat} (h : i < ns.length) : atI (nvs ns) (i : Int) = some (.int (ns.getD i 0 : Nat)) := by
  refine atI_nat ?_
  simp [nvs, nv, List.getD, List.getElem?_eq_getElem h]
theorem nvs_get {ns : List Nat} {i : Nat} {x : V} (h : (nvs ns)[i]? = some x) : i < ns.length ∧ x = .int (ns.getD i 0 : Nat) := by
  have hi : i < ns.length := by
    have := (List.getElem?_eq_some_iff.mp h).1
    simpa [nvs] using this
  refine ⟨hi, ?_⟩
  have e : (nvs ns)[i]? = some (.int (ns.getD i 0 : Nat)) := by simp [nvs, nv, List.getD, List.getElem?_eq_getElem hi]
  rw [e] at h
  exact (Option.some.inj h).symm
theorem nvs_snoc (ns : List Nat) (n : Nat) : nvs ns ++ [.int (n : Int)] = nvs (ns ++ [n]) := by simp [nvs, nv]
theorem nvs_len (ns : List Nat) : (nvs ns).length = ns.length := by simp [nvs]
theorem rgV_nvs (n : Nat) : rgV 0 (n : Int) = nvs (List.range n) := by
  unfold rgV nvs
  have e : ((n : Int) - 0).toNat = n := by omega
  rw [e]
  refine List.map_congr_left fun i _ => ?_
  show V.int (0 + (i : Nat)) = V.int (i : Nat)
  rw [Int.zero_add]
theorem DdAll.nats {M : Ms} {H : Hp} (ns : List Nat) : DdAll M H (nvs ns) (ns.map fun (n : Nat) => PyData.int (n : Int)) := by
  induction ns with
  | nil => exact .nil
  | cons n ns ih => exact .cons (.int _) ih
theorem DdAll.of_nats {M : Ms} {H : Hp} {vs : List V} {ns : List Nat} (h : DdAll M H vs (ns.map fun (n : Nat) => PyData.int (n : Int))) : vs = nvs ns := by
  induction ns generalizing vs with
  | nil => cases h; rfl
  | cons n ns ih =>
    cases h with
    | cons a b =>
      cases a
      rw [ih b]
      rfl
theorem Dd.nats {M : Ms} {H : Hp} {v : V} {ns : List Nat} (h : Dd M H v (natsD ns)) : ∃ a, v = .ref a ∧ ¬ M a ∧ H a = some (.lst (nvs ns)) := by
  obtain ⟨a, xs, e, m, h1, h2⟩ := h.list_inv
  rw [h2.of_nats] at h1
  exact ⟨a, e, m, h1⟩
theorem mk_nats {M : Ms} {H : Hp} {a : Addr} {ns : List Nat} (m : ¬ M a) (h : H a = some (.lst (nvs ns))) : Dd M H (.ref a) (natsD ns) := .lst m h (DdAll.nats ns)
theorem DdAll.nth {α : Type} {M : Ms} {H : Hp} {vs : List V} {f : α → PyData} {xs : List α} (h : DdAll M H vs (xs.map f)) {i : Nat} {x : V} (e : vs[i]? = some x) (d : α) : i < xs.length ∧ Dd M H x (f (xs.getD i d)) := by
  have hl := h.length
  rw [List.length_map] at hl
  have hi : i < xs.length := by rw [← hl]; exact (List.getElem?_eq_some_iff.mp e).1
  obtain ⟨c, hc, hd⟩ := h.at e
  refine ⟨hi, ?_⟩
  have e2 : (xs.map f)[i]? = some (f (xs.getD i d)) := by simp [List.getD, List.getElem?_eq_getElem hi]
  rw [e2] at hc
  rw [Option.some.inj hc]
  exact hd
theorem DdAll.nth' {α : Type} {M : Ms} {H : Hp} {vs : List V} {f : α → PyData} {xs : List α} (h : DdAll M H vs (xs.map f)) {i : Nat} (hi : i < xs.length) (d : α) : ∃ x, vs[i]? = some x ∧ Dd M H x (f (xs.getD i d)) := by
  have hl := h.length
  rw [List.length_map] at hl
  have e : vs[i]? = some (vs[i]'(by omega)) := by simp [hl, hi]
  exact ⟨_, e, (h.nth e d).2⟩
theorem Same.trans' {H H' H'' : Hp} (a : Same H H') (b : Same H' H'') : Same H H'' := fun x o e => b x o (a x o e)
theorem Same.rfl' {H : Hp} : Same H H := fun _ _ e => e
theorem Same.new' {H H' : Hp} {p : Addr} {o : HO} (s : Same H H') (n : H' p = none) : Same H (upd H' p o) := Same.trans' s (Same.new n)
section
variable {P : Program} {w : World} {K : PySem.W.Frag} {mg : Str → Option Value} {base : Heap}
def red (i m : Int) : Int := if 0 < m then i % m else i
def spReduced : Sp := fun vs H Q _ => vs.length = 2 ∧ ∃ i m : Int, vs = [.int i, .int m] ∧ Q (.int (red i m)) H
theorem sc_reduced : FnScope ["number", "modulus"] ["number", "modulus"] (defScope s_reduced_number) := ⟨rfl, rfl, rfl, by decide +kernel, rfl, by decide +kernel, by decide +kernel⟩
theorem ok_reduced (T : Tx K mg) : Gd P w K mg base 1 (ga K "reduced_number") ["number", "modulus"] spReduced := by
  refine gd_of T.f_reduced_number sc_reduced (fun _ _ _ _ _ _ us hl => match us, hl with | [_, _], _ => rfl) (fun _ _ _ _ h => h.1) (fun cdv A outer s H vs Q E hr h => ?_)
  obtain ⟨_, i, m, rfl, k⟩ := h
  refine ⟨_, pss_one (ps_ret (pe_ifExp (pt_cmpR op_gt (pv 1) pe_int (nomark _)) (pe_op op_mod (pv 0) (pv 1)) (pv 0))), ?_⟩
  refine ⟨_, rfl, _, _, rfl, rfl, _, rfl, ite2 (fun e => ?_) (fun e => ?_)⟩
  · have e' : 0 < m := of_decide_eq_true e
    refine ⟨_, rfl, _, rfl, _, _, rfl, rfl, e', ?_⟩
    have : red i m = i % m := if_pos e'
    rw [this] at k
    exact k
  · have e' : ¬ 0 < m := fun z => e (decide_eq_true z)
    refine ⟨_, rfl, ?_⟩
    have : red i m = i := if_neg e'
    rw [this] at k
    exact k
abbrev n_forest : List Str := ["size", "pairs", "groups", "found", "index", "tail", "head", "group"]
theorem sc_forest : FnScope n_forest ["size", "pairs"] (defScope s_forest_of) := ⟨rfl, rfl, rfl, by decide +kernel, rfl, by decide +kernel, by decide +kernel⟩
def spForest : Sp := fun vs H Q _ => vs.length = 2 ∧ ∃ (M : Ms) (n : Nat) (v : V) (es : List Edge), vs = [.int n, v] ∧ MOk M H ∧ Dd M H v (edgesD es) ∧ EdgesIn n es ∧ es.length ≤ 60 ∧ n ≤ 30 ∧
  ∀ r H', Same H H' → Dd M H' r (natsD (forest n es)) → Q r H'
theorem fSt_le (n : Nat) (es : List Edge) : ∀ k, (fSt n es k).2.length ≤ k
  | 0 => Nat.le_refl _
  | k + 1 => by
    have ih := fSt_le n es k
    show (fStep (fSt n es k) k (es.getD k (0, 0))).2.length ≤ k + 1
    unfold fStep
    split
    · simp; omega
    · omega
theorem vne {a b : Int} (h : a ≠ b) : (!decide (V.int a = V.int b)) = true := by
  rw [decide_eq_false (fun z => h (by injection z))]; rfl
theorem vne' {a b : Int} (h : (!decide (V.int a = V.int b)) = true) : a ≠ b := fun z => by
  rw [z, decide_eq_true rfl] at h
  cases h
theorem relab_take {gs : List Nat} {t h j : Nat} (hj : j < gs.length) : (relab gs t h).take (j + 1) = (relab gs t h).take j ++ [if gs.getD j 0 = gs.getD h 0 then gs.getD t 0 else gs.getD j 0] := by
  have hl : j < (relab gs t h).length := by simpa [relab] using hj
  rw [List.take_succ, List.getElem?_eq_getElem hl]
  have e : (relab gs t h)[j] = if gs.getD j 0 = gs.getD h 0 then gs.getD t 0 else gs.getD j 0 := by
    have e1 : gs.getD j 0 = gs[j] := by simp [List.getD, List.getElem?_eq_getElem hj]
    rw [e1]
    simp [relab]
  rw [e]
  rfl
theorem ok_forest (T : Tx K mg) : Gd P w K mg base 1 (ga K "forest_of") ["size", "pairs"] spForest := by
  refine gd_of T.f_forest_of sc_forest (fun _ _ _ _ _ _ us hl => match us, hl with | [_, _], _ => rfl) (fun _ _ _ _ h => h.1) (fun cdv A outer s H vs Q E hr h => ?_)
  obtain ⟨_, M, n, v, es, rfl, mok, hv, hin, hle, hn, k⟩ := h
  obtain ⟨a, xs, rfl, hm, ha, hl, hall, _⟩ := hv.items edgeD es
  have nd := sc_forest.nd
  refine ⟨_, pss_cons (ps_set (i := 2) nd rfl (Or.inr rfl) (pe_listRg rfl (by rfl) T.n_list (prg_1 (by rfl) T.n_range (pv 0))))
    (pss_cons (ps_set (i := 3) nd rfl (Or.inl rfl) (pe_lst pa_nil))
    (pss_cons (ps_for PassesOwn.never rfl (pi_enum (by rfl) T.n_enumerate (pa_cons (pv 1) pa_nil))
      (pg_tup rfl (pgs_cons (pg_name (i := 4) nd rfl (Or.inl rfl)) (pgs_cons (pg_tup rfl (pgs_cons (pg_name (i := 5) nd rfl (Or.inr rfl)) (pgs_cons (pg_name (i := 6) nd rfl (Or.inr rfl)) pgs_nil))) pgs_nil)))
      (pss_one (ps_if (pt_cmpR op_ne (pe_ix ix_list (pv 2) (pv 5) (fun _ _ => rfl)) (pe_ix ix_list (pv 2) (pv 6) (fun _ _ => rfl)) (nomark _))
        (pss_cons (ps_expr (pe_bm PySem.F.plainAttrs_list PySem.F.slot_list_append PySem.F.type_list_append mt_append (pv 3) (pa_cons (pv 4) pa_nil)))
          (pss_one (ps_set (i := 2) nd rfl (Or.inr rfl) (pe_lc (own := [("group", 7)]) (g := gName 7) (tt := tYes) rfl nd (pi_list (pv 2)) (blkOk_by (N := n_forest) (sc := defScope s_forest_of) (by decide +kernel))
            (fun _ _ _ _ _ => pg_name (i := 7) nd rfl (Or.inl rfl)) (fun _ _ _ _ _ => pts_nil)
            (fun _ _ _ _ _ => pe_ifExp (pt_cmpR op_eq (pv 7) (pe_ix (r := rIxL K) ix_list (pv 2) (pv 6) (fun _ _ => rfl)) (nomark _)) (pe_ix (r := rIxL K) ix_list (pv 2) (pv 5) (fun _ _ => rfl)) (pv 7))))))
        pss_nil)))
    (pss_one (ps_ret (pv 3))))), ?_⟩
  refine ⟨_, rfl, _, rfl, ⟨by omega, by omega, by omega, by omega, by omega⟩, fun g hg => ?_⟩
  refine ⟨by decide, fun F hF => ?_⟩
  have hF0 : H F = none := by
    rw [upd_ne (ne_of_none (show upd H g (.lst (rgV 0 n)) g = some _ from upd_same) hF).symm] at hF
    exact hF
  have hFg : F ≠ g := (ne_of_none (show upd H g (.lst (rgV 0 n)) g = some _ from upd_same) hF).symm
  refine ⟨_, rfl, a, xs, rfl, SqL.of ((Same.new' (Same.new hg) hF) _ _ ha), for_it (walk_enum (xs := xs)) (fun i σ H' => ∃ (gp : Addr) (x4 x5 x6 x7 : Option V),
    σ = [some (.int n), some (.ref a), some (.ref gp), some (.ref F), x4, x5, x6, x7] ∧ Same H H' ∧ gp ≠ F ∧ H' gp = some (.lst (nvs (fSt n es i).1)) ∧ H' F = some (.lst (nvs (fSt n es i).2))) ?_ ?_ ?_ ?_⟩
  · refine ⟨g, none, none, none, none, rfl, Same.new' (Same.new hg) hF, hFg.symm, ?_, upd_same⟩
    rw [upd_ne hFg.symm, upd_same, rgV_nvs]
    rfl
  · rintro i σ H' hi ⟨gp, x4, x5, x6, x7, rfl, sm, _⟩
    exact SqL.of (sm _ _ ha)
  · rintro i x σ H1 H2 hi ⟨gp, x4, x5, x6, x7, rfl, sm, ne, hgp, hFF⟩ ⟨T0, y0, y1, rfl, hT, rfl, e0, e1⟩
    obtain rfl := Option.some.inj e0
    obtain ⟨hi', hy⟩ := hall.nth e1 (0, 0)
    obtain ⟨t, rfl, ht⟩ := Dd.edge _ hy
    have sm2 : Same H1 (upd H1 T0 (.tup [.int (i : Nat), .ref t])) := Same.new hT
    have gl : (fSt n es i).1.length = n := fSt_len n es i
    obtain ⟨b1, b2⟩ := hin i hi'
    refine ⟨T0, _, rfl, SqT.of upd_same, rfl, _, _, rfl, _, _, rfl, ⟨t, _, rfl, SqT.of (sm2 _ _ (sm _ _ ht)), rfl, _, _, rfl, _, _, rfl, rfl, ?_⟩⟩
    refine ⟨rfl, ?_⟩
    refine ⟨_, rfl, _, rfl, gp, _, _, _, rfl, rfl, SqL.of (sm2 _ _ hgp), nvs_at (by omega), ?_⟩
    refine ⟨_, rfl, _, rfl, gp, _, _, _, rfl, rfl, SqL.of (sm2 _ _ hgp), nvs_at (by omega), rfl, _, rfl, ite2 (fun e => ?_) (fun e => ?_)⟩
    · have e' : (fSt n es i).1.getD (es.getD i (0, 0)).1 0 ≠ (fSt n es i).1.getD (es.getD i (0, 0)).2 0 := by
        intro z
        rw [z] at e
        simp at e
      have st : fSt n es (i + 1) = (relab (fSt n es i).1 (es.getD i (0, 0)).1 (es.getD i (0, 0)).2, (fSt n es i).2 ++ [i]) := by
        show fStep _ _ _ = _
        unfold fStep
        rw [if_pos e']
      have hz := fSt_le n es i
      refine ⟨_, rfl, .inl ⟨rfl, _, SqL.of (sm2 _ _ hFF)⟩, _, rfl, F, _, _, rfl, rfl, sm2 _ _ hFF, by rw [nvs_len]; show _ < 16777216; omega, ?_⟩
      have sm3 : Same H (upd (upd H1 T0 (.tup [.int (i : Nat), .ref t])) F (.lst (nvs (fSt n es i).2 ++ [.int (i : Nat)]))) := Same.mut (Same.trans' sm sm2) hF0
      have hgp3 : upd (upd H1 T0 (.tup [.int (i : Nat), .ref t])) F (.lst (nvs (fSt n es i).2 ++ [.int (i : Nat)])) gp = some (.lst (nvs (fSt n es i).1)) := by rw [upd_ne ne]; exact sm2 _ _ hgp
      have hF3 : upd (upd H1 T0 (.tup [.int (i : Nat), .ref t])) F (.lst (nvs (fSt n es i).2 ++ [.int (i : Nat)])) F = some (.lst (nvs ((fSt n es i).2 ++ [i]))) := by rw [upd_same, nvs_snoc]
      generalize upd (upd H1 T0 (.tup [.int (i : Nat), .ref t])) F (.lst (nvs (fSt n es i).2 ++ [.int (i : Nat)])) = H3 at sm3 hgp3 hF3 ⊢
      refine ⟨_, rfl, gp, rfl, ⟨_, SqL.of hgp3⟩, fun D hD => lc_list (K := K) (a := gp) (xs := nvs (fSt n es i).1) (fun j H' => Same H3 H' ∧ H' D = some (.lst (nvs ((relab (fSt n es i).1 (es.getD i (0, 0)).1 (es.getD i (0, 0)).2).take j)))) ?_ ?_ ?_ ?_⟩
      · exact ⟨Same.new hD, upd_same⟩
      · rintro j H' hj ⟨s4, _⟩
        exact SqL.of (s4 _ _ hgp3)
      · rintro j x H' hj ⟨s4, hD4⟩
        obtain ⟨hj', rfl⟩ := nvs_get hj
        refine ⟨rfl, ?_⟩
        have h4 := s4 _ _ hgp3
        refine ⟨_, rfl, _, rfl, _, rfl, gp, _, _, _, rfl, rfl, SqL.of h4, nvs_at (by omega), rfl, _, rfl, ?_⟩
        have len4 : (relab (fSt n es i).1 (es.getD i (0, 0)).1 (es.getD i (0, 0)).2).length = n := by simp [relab, gl]
        have key : (relab (fSt n es i).1 (es.getD i (0, 0)).1 (es.getD i (0, 0)).2).take (j + 1) = (relab (fSt n es i).1 (es.getD i (0, 0)).1 (es.getD i (0, 0)).2).take j ++ [if (fSt n es i).1.getD j 0 = (fSt n es i).1.getD (es.getD i (0, 0)).2 0 then (fSt n es i).1.getD (es.getD i (0, 0)).1 0 else (fSt n es i).1.getD j 0] := relab_take hj'
        have fin : ∀ y : Nat, y = (if (fSt n es i).1.getD j 0 = (fSt n es i).1.getD (es.getD i (0, 0)).2 0 then (fSt n es i).1.getD (es.getD i (0, 0)).1 0 else (fSt n es i).1.getD j 0) →
            ∃ acc, H' D = some (.lst acc) ∧ acc.length < sizeLine ∧ Same H3 (upd H' D (.lst (acc ++ [.int (y : Nat)]))) ∧ upd H' D (.lst (acc ++ [.int (y : Nat)])) D = some (.lst (nvs ((relab (fSt n es i).1 (es.getD i (0, 0)).1 (es.getD i (0, 0)).2).take (j + 1)))) := by
          intro y hy
          refine ⟨_, hD4, ?_, Same.mut s4 hD, ?_⟩
          · rw [nvs_len, List.length_take]; show _ < 16777216; omega
          · rw [upd_same, nvs_snoc, key, hy]
        refine ite2 (fun c => ?_) (fun c => ?_)
        · have c' : (fSt n es i).1.getD j 0 = (fSt n es i).1.getD (es.getD i (0, 0)).2 0 := by
            have := of_decide_eq_true c
            injection this with z
            exact Int.ofNat_inj.mp z
          refine ⟨_, rfl, _, rfl, gp, _, _, _, rfl, rfl, SqL.of h4, nvs_at (by omega), ?_⟩
          exact fin _ (by rw [if_pos c'])
        · have c' : ¬ (fSt n es i).1.getD j 0 = (fSt n es i).1.getD (es.getD i (0, 0)).2 0 := fun z => c (by rw [z]; exact decide_eq_true rfl)
          refine ⟨_, rfl, ?_⟩
          exact fin _ (by rw [if_neg c'])
      · rintro H' ⟨s4, hD4⟩
        rw [nvs_len, List.take_of_length_le (by simp [relab])] at hD4
        refine ⟨D, _, _, _, _, rfl, Same.trans' sm3 s4, (ne_of_none hF3 hD).symm, ?_, ?_⟩
        · rw [hD4, st]
        · rw [s4 _ _ hF3, st]
    · have e' : (fSt n es i).1.getD (es.getD i (0, 0)).1 0 = (fSt n es i).1.getD (es.getD i (0, 0)).2 0 := by
        refine Classical.byContradiction fun z => e ?_
        exact vne (fun q => z (Int.ofNat_inj.mp q))
      have st : fSt n es (i + 1) = fSt n es i := by
        show fStep _ _ _ = _
        unfold fStep
        rw [if_neg (fun z => z e')]
      refine ⟨gp, _, _, _, _, rfl, Same.trans' sm sm2, ne, ?_, ?_⟩
      · rw [st]; exact sm2 _ _ hgp
      · rw [st]; exact sm2 _ _ hFF
  · rintro σ H' ⟨gp, x4, x5, x6, x7, rfl, sm, _, hgp, hFF⟩
    rw [hl] at hFF
    exact ⟨_, rfl, k _ _ sm (mk_nats (mok.new hF0) hFF)⟩
end
end Tt
set_option Elab.async false
set_option linter.all false
set_option maxRecDepth 100000
set_option maxHeartbeats 4000000
/-! solving: links_of -/
namespace Tt
open PySem PySem.Spec PyProof.Rows L2 He
/-- M, the list and its rows -/
def M2 (M : Ms) (F : Addr) (ls : List Addr) : Ms := fun a => M a ∨ a = F ∨ a ∈ ls
structure LkInv (M : Ms) (H : Hp) (F : Addr) (ls : List Addr) (H' : Hp) (L : List (List Link)) (c : Nat) : Prop where
  sm : Same H H'
  mok : MOk M H
  fr : H F = none
  at_ : H' F = some (.lst (ls.map V.ref))
  len : ls.length = L.length
  nd : ls.Nodup
  ne : F ∉ ls
  new : ∀ a, a ∈ ls → H a = none
  row : ∀ (j : Nat) (D : Addr), ls[j]? = some D → ∃ ws, H' D = some (.lst ws) ∧ DdAll (M2 M F ls) H' ws ((L.getD j []).map linkD) ∧ ws.length ≤ c
section
variable {M : Ms} {H H' : Hp} {F : Addr} {ls : List Addr} {L : List (List Link)} {c : Nat}
theorem LkInv.mok2 (I : LkInv M H F ls H' L c) : MOk (M2 M F ls) H' := fun a h => by
  rcases h with h | h | h
  · exact (I.mok.same I.sm) a h
  · rw [h]; exact ⟨_, I.at_⟩
  · obtain ⟨j, hj⟩ := List.mem_iff_getElem?.mp h
    obtain ⟨ws, e, _⟩ := I.row j a hj
    exact ⟨_, e⟩
theorem LkInv.same (I : LkInv M H F ls H' L c) {H2 : Hp} (s : Same H' H2) : LkInv M H F ls H2 L c :=
  ⟨Same.trans' I.sm s, I.mok, I.fr, s _ _ I.at_, I.len, I.nd, I.ne, I.new, fun j D h => let ⟨ws, e, d, b⟩ := I.row j D h; ⟨ws, s _ _ e, d.same s, b⟩⟩
theorem LkInv.push (I : LkInv M H F ls H' L c) {t D : Addr} {j : Nat} {ws : List V} {l : Link} (hj : ls[j]? = some D) (hD : H' D = some (.lst ws)) (ht : H' t = some (.tup [.int (l.1 : Int), .int l.2.1, .int (l.2.2 : Int)])) (hn : ¬ M2 M F ls t) :
    LkInv M H F ls (upd H' D (.lst (ws ++ [.ref t]))) (push L j l) (c + 1) := by
  have hDm : D ∈ ls := List.mem_iff_getElem?.mpr ⟨j, hj⟩
  have jl : j < L.length := by rw [← I.len]; exact (List.getElem?_eq_some_iff.mp hj).1
  have hDF : F ≠ D := fun z => I.ne (by rw [z]; exact hDm)
  refine ⟨Same.mut I.sm (I.new D hDm), I.mok, I.fr, by rw [upd_ne hDF]; exact I.at_, by rw [push_len]; exact I.len, I.nd, I.ne, I.new, fun j' D' h' => ?_⟩
  by_cases e : j' = j
  · subst e
    rw [hj] at h'
    obtain rfl := Option.some.inj h'
    obtain ⟨ws', e1, d, b⟩ := I.row j' D hj
    rw [hD] at e1
    have e2 : ws = ws' := by injection e1 with z; injection z
    subst e2
    refine ⟨_, upd_same, ?_, by rw [List.length_append, List.length_singleton]; omega⟩
    have e3 : (Tt.push L j' l).getD j' [] = L.getD j' [] ++ [l] := getD_set_eq L j' _ [] jl
    rw [e3, List.map_append]
    refine (d.upd (.inr (.inr hDm))).snoc ?_
    exact (mk_link l hn ht).upd (.inr (.inr hDm))
  · have hne : D' ≠ D := fun z => by
      subst z
      exact e ((List.getElem?_inj (List.getElem?_eq_some_iff.mp h').1 I.nd).mp (h'.trans hj.symm))
    obtain ⟨ws', e1, d, b⟩ := I.row j' D' h'
    refine ⟨ws', by rw [upd_ne hne]; exact e1, ?_, by omega⟩
    have e3 : (Tt.push L j l).getD j' [] = L.getD j' [] := getD_set_ne L j j' _ [] (fun z => e z.symm)
    rw [e3]
    exact d.upd (.inr (.inr hDm))
theorem LkInv.done (I : LkInv M H F ls H' L c) : Dd M H' (.ref F) (linksD L) := by
  refine .lst (I.mok.new I.fr) I.at_ ?_
  have key : ∀ (ls' : List Addr) (L' : List (List Link)), ls'.length = L'.length → (∀ a, a ∈ ls' → ¬ M a) → (∀ (j : Nat) (D : Addr), ls'[j]? = some D → ∃ ws, H' D = some (.lst ws) ∧ DdAll (M2 M F ls) H' ws ((L'.getD j []).map linkD) ∧ ws.length ≤ c) →
      DdAll M H' (ls'.map V.ref) (L'.map fun xs => .list (xs.map linkD)) := by
    intro ls'
    induction ls' with
    | nil => intro L' hl _ _; cases L' with
      | nil => exact .nil
      | cons => simp at hl
    | cons D ls' ih =>
      intro L' hl hm hr
      cases L' with
      | nil => simp at hl
      | cons x L' =>
        obtain ⟨ws, e, d, b⟩ := hr 0 D rfl
        refine .cons (.lst (hm D (by simp)) e (d.less fun a h => .inl h)) (ih L' (by simpa using hl) (fun a h => hm a (by simp [h])) fun j D' h => ?_)
        exact hr (j + 1) D' (by simpa using h)
  exact key ls L I.len (fun a h => I.mok.new (I.new a h)) I.row
end
section
variable {P : Program} {w : World} {K : PySem.W.Frag} {mg : Str → Option Value} {base : Heap}
abbrev n_links : List Str := ["size", "pairs", "forest", "found", "index", "tail", "head", "node"]
theorem sc_links : FnScope n_links ["size", "pairs", "forest"] (defScope s_links_of) := ⟨rfl, rfl, rfl, by decide +kernel, rfl, by decide +kernel, by decide +kernel⟩
def spLinks : Sp := fun vs H Q _ => vs.length = 3 ∧ ∃ (M : Ms) (n : Nat) (v u : V) (es : List Edge) (Fo : List Nat), vs = [.int n, v, u] ∧ MOk M H ∧ Dd M H v (edgesD es) ∧ Dd M H u (natsD Fo) ∧ EdgesIn n es ∧ (∀ i, i ∈ Fo → i < es.length) ∧ Fo.length ≤ 60 ∧ n ≤ 30 ∧
  ∀ r H', Same H H' → Dd M H' r (linksD (links n es Fo)) → Q r H'
theorem ok_links (T : Tx K mg) : Gd P w K mg base 1 (ga K "links_of") ["size", "pairs", "forest"] spLinks := by
  refine gd_of T.f_links_of sc_links (fun _ _ _ _ _ _ us hl => match us, hl with | [_, _, _], _ => rfl) (fun _ _ _ _ h => h.1) (fun cdv A outer s H vs Q E hr h => ?_)
  obtain ⟨_, M, n, v, u, es, Fo, rfl, mok, hv, hu, hin, hFo, hle, hn, k⟩ := h
  obtain ⟨a, xs, rfl, hm, ha, hl, hall, _⟩ := hv.items edgeD es
  obtain ⟨fo, rfl, hmf, hfo⟩ := hu.nats
  have nd := sc_links.nd
  refine ⟨_, pss_cons (ps_setLc (i := 3) (own := [("node", 7)]) (g := gName 7) (tt := tYes) rfl nd rfl rfl (sw_true rfl rfl rfl (by decide +kernel)) (pi_range1 (by rfl) T.n_range (pa_cons (pv 0) pa_nil)) (blkOk_by (N := n_links) (sc := defScope s_links_of) (by decide +kernel))
      (fun _ _ _ _ _ => pg_name (i := 7) nd rfl (Or.inl rfl)) (fun _ _ _ _ _ => pts_nil) (fun _ _ _ _ _ => pe_lst pa_nil))
    (pss_cons (ps_for PassesOwn.never rfl (pi_list (pv 2)) (pg_name (i := 4) nd rfl (Or.inl rfl))
      (pss_cons (ps_asg (pe_ix ix_list (pv 1) (pv 4) (fun _ _ => rfl)) (pg_tup rfl (pgs_cons (pg_name (i := 5) nd rfl (Or.inl rfl)) (pgs_cons (pg_name (i := 6) nd rfl (Or.inl rfl)) pgs_nil))))
      (pss_cons (ps_expr (pe_bm PySem.F.plainAttrs_list PySem.F.slot_list_append PySem.F.type_list_append mt_append (pe_ix ix_list (pv 3) (pv 5) (fun _ _ => rfl)) (pa_cons (pe_tup (pa_cons (pv 4) (pa_cons pe_int (pa_cons (pv 6) pa_nil)))) pa_nil)))
      (pss_one (ps_expr (pe_bm PySem.F.plainAttrs_list PySem.F.slot_list_append PySem.F.type_list_append mt_append (pe_ix ix_list (pv 3) (pv 6) (fun _ _ => rfl)) (pa_cons (pe_tup (pa_cons (pv 4) (pa_cons (pe_un un_neg pe_int) (pa_cons (pv 5) pa_nil)))) pa_nil)))))))
    (pss_one (ps_ret (pv 3)))), ?_⟩
  refine ⟨_, rfl, (n : Int), rfl, by omega, by omega, fun F hF => lc_it (walk_range (lo := 0) (n := (n : Int).toNat)) (fun j H' => ∃ ls, LkInv M H F ls H' (List.replicate j []) 0) ⟨[], Same.new hF, mok, hF, upd_same, rfl, List.nodup_nil, List.not_mem_nil, fun _ z => (List.not_mem_nil z).elim, fun j D h => by simp at h⟩ (fun _ _ _ _ => trivial) ?_ ?_⟩
  · rintro j x H1 H2 hj ⟨ls, I⟩ ⟨rfl, rfl⟩
    refine ⟨rfl, ?_⟩
    refine ⟨by decide, fun D hD => ?_⟩
    have hl := I.len
    rw [List.length_replicate] at hl
    have dF : F ≠ D := ne_of_none I.at_ hD
    have hH : H D = none := by
      cases e : H D with
      | none => rfl
      | some o =>
        rw [I.sm _ _ e] at hD
        cases hD
    have nm : D ∉ ls := fun z => by
      obtain ⟨i, hi⟩ := List.mem_iff_getElem?.mp z
      obtain ⟨ws, e, _⟩ := I.row i D hi
      rw [hD] at e
      cases e
    refine ⟨_, by rw [upd_ne dF]; exact I.at_, by rw [List.length_map, hl]; show _ < 16777216; omega, ls ++ [D], ?_⟩
    have e1 : ls.map V.ref ++ [V.ref D] = (ls ++ [D]).map V.ref := by simp
    rw [e1]
    refine ⟨Same.mut (Same.new' I.sm hD) hF, mok, hF, upd_same, by simp [hl], ?_, ?_, ?_, ?_⟩
    · rw [List.nodup_append]
      refine ⟨I.nd, by simp, fun a h b hb => ?_⟩
      have : b = D := by simpa using hb
      subst this
      exact fun z => nm (z ▸ h)
    · simp only [List.mem_append, List.mem_singleton]
      exact fun z => z.elim I.ne dF
    · intro b hb
      rcases List.mem_append.mp hb with hb | hb
      · exact I.new b hb
      · rw [List.mem_singleton.mp hb]; exact hH
    · intro i D' h'
      have emp : (List.replicate (j + 1) ([] : List Link)).getD i [] = [] := by
        simp only [List.getD, List.getElem?_replicate]
        split <;> rfl
      rw [emp]
      have neF : D' ≠ F := fun z => by
        have hm2 : F ∈ ls ++ [D] := List.mem_iff_getElem?.mpr ⟨i, z ▸ h'⟩
        simp only [List.mem_append, List.mem_singleton] at hm2
        exact hm2.elim I.ne dF
      rw [upd_ne neF]
      by_cases e : D' = D
      · rw [e, upd_same]
        exact ⟨[], rfl, .nil, Nat.le_refl _⟩
      · rw [upd_ne e]
        have hi : i < ls.length := by
          have h3 := (List.getElem?_eq_some_iff.mp h').1
          rw [List.length_append, List.length_singleton] at h3
          refine Classical.byContradiction fun z => e ?_
          have : i = ls.length := by omega
          rw [this, List.getElem?_append_right (Nat.le_refl _), Nat.sub_self] at h'
          exact (Option.some.inj h').symm
        rw [List.getElem?_append_left hi] at h'
        obtain ⟨ws, e1, d, b⟩ := I.row i D' h'
        have : ws = [] := List.length_eq_zero_iff.mp (by omega)
        subst this
        exact ⟨[], e1, .nil, Nat.le_refl _⟩
  · rintro H1 ⟨ls, I⟩
    have en : (n : Int).toNat = n := by omega
    rw [en] at I
    have h1 := I.sm
    refine ⟨_, rfl, fo, rfl, ⟨_, SqL.of (h1 _ _ hfo)⟩, for_it (walk_list (xs := nvs Fo)) (fun i σ H' => ∃ (x4 x5 x6 : Option V), σ = [some (.int n), some (.ref a), some (.ref fo), some (.ref F), x4, x5, x6, none] ∧ LkInv M H F ls H' ((Fo.take i).foldl (lStep es) (List.replicate n [])) (2 * i)) ⟨none, none, none, rfl, I⟩ ?_ ?_ ?_⟩
    · rintro i σ H2 hi ⟨x4, x5, x6, rfl, J⟩
      exact SqL.of (J.sm _ _ hfo)
    · rintro i x σ H2 H3 hi ⟨x4, x5, x6, rfl, J⟩ ⟨rfl, hx⟩
      obtain ⟨hi', rfl⟩ := nvs_get hx
      have mem : Fo.getD i 0 ∈ Fo := by
        have : Fo.getD i 0 = Fo[i] := by simp [List.getD, List.getElem?_eq_getElem hi']
        rw [this]
        exact List.getElem_mem hi'
      have hb := hFo _ mem
      obtain ⟨y, hy, dy⟩ := hall.nth' hb (0, 0)
      obtain ⟨t, rfl, ht⟩ := Dd.edge _ dy
      obtain ⟨b1, b2⟩ := hin _ hb
      have ll : ls.length = n := by
        have := J.len
        rw [this]
        show (List.foldl (lStep es) _ _).length = n
        rw [foldl_lStep_len, List.length_replicate]
      obtain ⟨D1, hD1⟩ : ∃ D, ls[(es.getD (Fo.getD i 0) (0, 0)).1]? = some D := ⟨_, List.getElem?_eq_getElem (by omega)⟩
      obtain ⟨D2, hD2⟩ : ∃ D, ls[(es.getD (Fo.getD i 0) (0, 0)).2]? = some D := ⟨_, List.getElem?_eq_getElem (by omega)⟩
      refine ⟨_, rfl, _, rfl, a, _, _, _, rfl, rfl, SqL.of (J.sm _ _ ha), atI_nat hy, ?_⟩
      refine ⟨t, _, rfl, SqT.of (J.sm _ _ ht), rfl, _, _, rfl, _, _, rfl, ⟨rfl, ?_⟩⟩
      obtain ⟨ws, e1, _, c1⟩ := J.row _ _ hD1
      refine ⟨_, rfl, _, rfl, F, _, _, .ref D1, rfl, rfl, SqL.of J.at_, atI_nat (by rw [List.getElem?_map, hD1]; rfl), .inl ⟨rfl, _, SqL.of e1⟩, ?_⟩
      refine ⟨_, rfl, _, rfl, by show 3 ≤ sizeLine; decide, fun t1 ht1 => ?_⟩
      have s1 : Same H3 (upd H3 t1 (.tup [.int ((Fo.getD i 0 : Nat) : Int), .int 1, .int ((es.getD (Fo.getD i 0) (0, 0)).2 : Int)])) := Same.new ht1
      have J1 := (J.same s1).push (t := t1) (l := (Fo.getD i 0, 1, (es.getD (Fo.getD i 0) (0, 0)).2)) hD1 (s1 _ _ e1) upd_same (J.mok2.new ht1)
      refine ⟨D1, ws, _, rfl, rfl, s1 _ _ e1, by show _ < 16777216; rw [nvs_len] at hi; omega, ?_⟩
      obtain ⟨ws2, e2, _, c2⟩ := J1.row _ _ hD2
      refine ⟨_, rfl, _, rfl, F, _, _, .ref D2, rfl, rfl, SqL.of J1.at_, atI_nat (by rw [List.getElem?_map, hD2]; rfl), .inl ⟨rfl, _, SqL.of e2⟩, ?_⟩
      refine ⟨_, rfl, _, rfl, _, rfl, by show 3 ≤ sizeLine; decide, fun t2 ht2 => ?_⟩
      have s2 := Same.new (o := .tup [.int ((Fo.getD i 0 : Nat) : Int), .int (-1), .int ((es.getD (Fo.getD i 0) (0, 0)).1 : Int)]) ht2
      have J2 := (J1.same s2).push (t := t2) (l := (Fo.getD i 0, -1, (es.getD (Fo.getD i 0) (0, 0)).1)) hD2 (s2 _ _ e2) upd_same (J1.mok2.new ht2)
      refine ⟨D2, ws2, _, rfl, rfl, s2 _ _ e2, by show _ < 16777216; rw [nvs_len] at hi; omega, ?_⟩
      refine ⟨_, _, _, rfl, ?_⟩
      have e3 : Fo.take (i + 1) = Fo.take i ++ [Fo.getD i 0] := by
        rw [List.take_succ, List.getElem?_eq_getElem hi']
        simp [List.getD, List.getElem?_eq_getElem hi']
      rw [e3, List.foldl_append]
      exact J2
    · rintro σ H2 ⟨x4, x5, x6, rfl, J⟩
      rw [nvs_len, List.take_of_length_le (Nat.le_refl _)] at J
      exact ⟨_, rfl, k _ _ J.sm J.done⟩
end
end Tt
set_option Elab.async false
set_option linter.all false
set_option maxRecDepth 100000
set_option maxHeartbeats 4000000
/-! solving: walk_paths -/
namespace Tt
open PySem PySem.Spec PyProof.Rows L2 He
theorem take_next {α : Type} (l : List α) (i : Nat) (d : α) (h : i < l.length) : l.take (i + 1) = l.take i ++ [l.getD i d] := by
  rw [List.take_succ, List.getElem?_eq_getElem h]
  simp [List.getD, List.getElem?_eq_getElem h]
theorem Same.back {H H' : Hp} {a : Addr} (s : Same H H') (n : H' a = none) : H a = none := by
  cases e : H a with
  | none => rfl
  | some o =>
    rw [s _ _ e] at n
    cases n
/-- the dict of paths -/
structure PD (M : Ms) (H : Hp) (kvs : List (Key × V)) (ps : Pths) : Prop where
  k : kvs.map (·.1) = ps.map fun p => (Sum.inl (p.1 : Int) : Key)
  v : DdAll M H (kvs.map (·.2)) (ps.map fun p => walkD p.2)
section
variable {M M' : Ms} {H H' : Hp} {kvs : List (Key × V)} {ps : Pths} {n : Nat}
theorem PD.len (p : PD M H kvs ps) : kvs.length = ps.length := by
  have := congrArg List.length p.k
  simpa using this
theorem PD.nil : PD M H [] [] := ⟨rfl, .nil⟩
theorem PD.uncons {kv : Key × V} {q : Nat × Walk} (p : PD M H (kv :: kvs) (q :: ps)) : kv.1 = Sum.inl (q.1 : Int) ∧ Dd M H kv.2 (walkD q.2) ∧ PD M H kvs ps := by
  obtain ⟨a, b⟩ := p
  simp only [List.map_cons, List.cons.injEq] at a
  cases b with
  | cons x y => exact ⟨a.1, x, a.2, y⟩
theorem key_nat {a b : Nat} : ((Sum.inl (a : Int) : Key) = Sum.inl (b : Int)) ↔ a = b := by
  constructor
  · intro h
    injection h with h
    exact Int.ofNat_inj.mp h
  · intro h; rw [h]
theorem PD.hasNo : ∀ {kvs : List (Key × V)} {ps : Pths}, PD M H kvs ps → phas ps n = false → valV kvs (Sum.inl (n : Int)) = none
  | [], _, _, _ => rfl
  | kv :: kvs, [], p, _ => by have := p.len; simp at this
  | kv :: kvs, q :: ps, p, h => by
    obtain ⟨a, _, c⟩ := p.uncons
    simp only [phas, List.any_cons, Bool.or_eq_false_iff] at h
    rw [valV_neg (fun z => by
      rw [a, key_nat] at z
      have := h.1
      rw [z] at this
      simp at this)]
    exact PD.hasNo c h.2
theorem PD.has : ∀ {kvs : List (Key × V)} {ps : Pths}, PD M H kvs ps → phas ps n = true → ∃ v, valV kvs (Sum.inl (n : Int)) = some v ∧ Dd M H v (walkD (pget ps n))
  | [], ps, p, h => by
    have := p.len
    have : ps = [] := List.length_eq_zero_iff.mp this.symm
    subst this
    simp [phas] at h
  | kv :: kvs, [], p, _ => by have := p.len; simp at this
  | kv :: kvs, q :: ps, p, h => by
    obtain ⟨a, b, c⟩ := p.uncons
    by_cases e : q.1 = n
    · refine ⟨kv.2, valV_pos (by rw [a, e]), ?_⟩
      have : pget (q :: ps) n = q.2 := by simp [pget, List.find?_cons, e]
      rw [this]
      exact b
    · simp only [phas, List.any_cons, Bool.or_eq_true] at h
      have h2 : phas ps n = true := h.resolve_left (fun z => e (by simpa using z))
      obtain ⟨v, h3, h4⟩ := PD.has c h2
      refine ⟨v, by rw [valV_neg (fun z => e (by rw [a, key_nat] at z; exact z))]; exact h3, ?_⟩
      have : pget (q :: ps) n = pget ps n := by simp [pget, List.find?_cons, e]
      rw [this]
      exact h4
theorem PD.snoc {v : V} {w : Walk} (p : PD M H kvs ps) (d : Dd M H v (walkD w)) : PD M H (kvs ++ [(Sum.inl (n : Int), v)]) (ps ++ [(n, w)]) := by
  refine ⟨?_, ?_⟩
  · rw [List.map_append, List.map_append, p.k]; rfl
  · rw [List.map_append, List.map_append]
    exact p.v.append (.cons d .nil)
theorem PD.same (p : PD M H kvs ps) (s : Same H H') : PD M H' kvs ps := ⟨p.k, p.v.same s⟩
theorem PD.upd {D : Addr} {o : HO} (p : PD M H kvs ps) (m : M D) : PD M (upd H D o) kvs ps := ⟨p.k, p.v.upd m⟩
theorem PD.less (p : PD M H kvs ps) (k : ∀ a, M' a → M a) : PD M' H kvs ps := ⟨p.k, p.v.less k⟩
theorem PD.also {D : Addr} (p : PD M H kvs ps) (n : H D = none) : PD (also M D) H kvs ps := ⟨p.k, p.v.also n⟩
end
/-- the lengths of the walks -/
def PLen (ps : Pths) : Prop := ∀ p, p ∈ ps → p.2.length < ps.length
theorem vLink_len {node : Nat} {s : Pths × List Nat} {l : Link} (hn : node ∈ s.1.map (·.1)) (h : PLen s.1) : PLen (vLink node s l).1 := by
  unfold vLink
  split
  · exact h
  · intro p hp
    rcases List.mem_append.mp hp with hp | hp
    · have := h p hp
      simp only [List.length_append, List.length_singleton]
      omega
    · rw [List.mem_singleton.mp hp]
      have : (pget s.1 node).length < s.1.length := h _ (pget_mem (phas_iff.mpr hn))
      simp only [List.length_append, List.length_singleton]
      omega
theorem vLink_keys {node : Nat} {s : Pths × List Nat} {l : Link} {n : Nat} (hn : n ∈ s.1.map (·.1)) : n ∈ (vLink node s l).1.map (·.1) := by
  unfold vLink
  split
  · exact hn
  · rw [List.map_append]; exact List.mem_append_left _ hn
theorem vLinks_len {node : Nat} : ∀ (L : List Link) {s : Pths × List Nat}, node ∈ s.1.map (·.1) → PLen s.1 → PLen (L.foldl (vLink node) s).1 ∧ ∀ n, n ∈ s.1.map (·.1) → n ∈ (L.foldl (vLink node) s).1.map (·.1)
  | [], s, _, h => ⟨h, fun _ h => h⟩
  | l :: L, s, hn, h => by
    obtain ⟨a, b⟩ := vLinks_len L (s := vLink node s l) (vLink_keys hn) (vLink_len hn h)
    exact ⟨a, fun n h => b n (vLink_keys h)⟩
theorem vNodes_len {ls : List (List Link)} : ∀ (L : List Nat) {s : Pths × List Nat}, (∀ n, n ∈ L → n ∈ s.1.map (·.1)) → PLen s.1 → PLen (L.foldl (vNode ls) s).1
  | [], s, _, h => h
  | n :: L, s, hn, h => by
    obtain ⟨a, b⟩ := vLinks_len (ls.getD n []) (s := s) (hn n (List.mem_cons_self ..)) h
    exact vNodes_len L (s := vNode ls s n) (fun x hx => b x (hn x (List.mem_cons_of_mem _ hx))) a
theorem bfs_len {ls : List (List Link)} {start : Nat} (hin : LinksIn ls) (hs : start < ls.length) : ∀ k, PLen (bfs ls start k).1
  | 0 => by
    intro p hp
    rw [List.mem_singleton.mp hp]
    exact Nat.zero_lt_one
  | k + 1 => vNodes_len _ (s := ((bfs ls start k).1, [])) (bfs_inv hin hs k).sub (bfs_len hin hs k)
theorem PInv.few {ls : List (List Link)} {start : Nat} {ps : Pths} (I : PInv ls start ps) : ps.length ≤ ls.length := by
  have := nodup_lt_length ls.length (ps.map (·.1)) I.nd (fun x hx => by
    obtain ⟨p, hp, rfl⟩ := List.mem_map.mp hx
    exact I.lt p hp)
  simpa using this
/-- a round under way -/
structure WS (M : Ms) (H : Hp) (Pd Dl : Addr) (H' : Hp) (s : Pths × List Nat) : Prop where
  sm : Same H H'
  mok : MOk M H
  fp : H Pd = none
  fd : H Dl = none
  ne : Pd ≠ Dl
  d : ∃ kvs, H' Pd = some (.dK kvs) ∧ PD (also (also M Pd) Dl) H' kvs s.1
  l : H' Dl = some (.lst (nvs s.2))
theorem WS.same {M : Ms} {H H' H2 : Hp} {Pd Dl : Addr} {s : Pths × List Nat} (w : WS M H Pd Dl H' s) (k : Same H' H2) : WS M H Pd Dl H2 s :=
  ⟨Same.trans' w.sm k, w.mok, w.fp, w.fd, w.ne, let ⟨kvs, a, b⟩ := w.d; ⟨kvs, k _ _ a, b.same k⟩, k _ _ w.l⟩
section
variable {P : Program} {w : World} {K : PySem.W.Frag} {mg : Str → Option Value} {base : Heap}
abbrev n_walk : List Str := ["links", "start", "paths", "level", "later", "node", "index", "way", "other"]
theorem sc_walk : FnScope n_walk ["links", "start"] (defScope s_walk_paths) := ⟨rfl, rfl, rfl, by decide +kernel, rfl, by decide +kernel, by decide +kernel⟩
def spWalk : Sp := fun vs H Q _ => vs.length = 2 ∧ ∃ (M : Ms) (v : V) (start : Nat) (ls : List (List Link)), vs = [v, .int start] ∧ MOk M H ∧ Dd M H v (linksD ls) ∧ LinksIn ls ∧ start < ls.length ∧ ls.length ≤ 30 ∧
  ∀ p H' kvs, Same H H' → H p = none → H' p = some (.dK kvs) → PD (also M p) H' kvs (walkPaths ls start) → Q (.ref p) H'
theorem ok_walk (T : Tx K mg) : Gd P w K mg base 1 (ga K "walk_paths") ["links", "start"] spWalk := by
  refine gd_of T.f_walk_paths sc_walk (fun _ _ _ _ _ _ us hl => match us, hl with | [_, _], _ => rfl) (fun _ _ _ _ h => h.1) (fun cdv A outer s H vs Q E hr h => ?_)
  obtain ⟨_, M, v, start, ls, rfl, mok, hv, hin, hst, hln, k⟩ := h
  obtain ⟨a, xs, rfl, hm, ha, hl, hall, _⟩ := hv.items (fun xs : List Link => .list (xs.map linkD)) ls
  have nd := sc_walk.nd
  have hu := hu_of hr
  refine ⟨_, pss_cons (ps_set (i := 2) nd rfl (Or.inl rfl) (pe_disp (pps_cons (pv 1) (pe_lst pa_nil) pps_nil) (by rfl) (by rfl) (fun z => by cases z) (by decide)))
    (pss_cons (ps_set (i := 3) nd rfl (Or.inl rfl) (pe_lst (pa_cons (pv 1) pa_nil)))
    (pss_cons (ps_while PassesOwn.never (pt_truth (pv 3) (fun _ => rfl))
      (pss_cons (ps_set (i := 4) nd rfl (Or.inl rfl) (pe_lst pa_nil))
      (pss_cons (ps_for PassesOwn.never rfl (pi_list (pv 3)) (pg_name (i := 5) nd rfl (Or.inl rfl))
        (pss_one (ps_for PassesOwn.never rfl (pi_list (pe_ix ix_list (pv 0) (pv 5) (fun _ _ => rfl))) (pg_tup rfl (pgs_cons (pg_name (i := 6) nd rfl (Or.inl rfl)) (pgs_cons (pg_name (i := 7) nd rfl (Or.inl rfl)) (pgs_cons (pg_name (i := 8) nd rfl (Or.inl rfl)) pgs_nil))))
          (pss_one (ps_if (pt_cmp (pc_dnotin hu (pv 8) (pv 2)) (by rfl))
            (pss_cons (ps_dput hu (pv 2) (pv 8) (pe_op op_cat (pe_dget hu (pv 2) (pv 5) (fun _ _ => rfl)) (pe_lst (pa_cons (pe_tup (pa_cons (pv 6) (pa_cons (pv 7) pa_nil))) pa_nil))) rfl)
            (pss_one (ps_expr (pe_bm PySem.F.plainAttrs_list PySem.F.slot_list_append PySem.F.type_list_append mt_append (pv 4) (pa_cons (pv 8) pa_nil)))))
            pss_nil)))))
      (pss_one (ps_set (i := 3) nd rfl (Or.inl rfl) (pv 4))))))
    (pss_one (ps_ret (pv 2))))), ?_⟩
  intro Pd hPd
  refine ⟨_, rfl, by decide, fun e0 he0 => ⟨upd_ne (ne_of_none upd_same he0) |>.trans upd_same, [(Sum.inl (start : Int), .ref e0)], rfl, by show 1 ≤ 15; decide, ?_⟩⟩
  refine ⟨_, rfl, by show 1 ≤ sizeLine; decide, fun lv0 hlv0 => ?_⟩
  have hPd0 : ∀ (o : HO), upd H Pd o Pd = some o := fun _ => upd_same
  have ne0 : e0 ≠ Pd := (ne_of_none upd_same he0).symm
  have hH0 : H e0 = none := by rw [upd_ne ne0] at he0; exact he0
  have neL : lv0 ≠ Pd := (ne_of_none upd_same hlv0).symm
  have S1 : Same H (upd (upd (upd H Pd (.dK [])) e0 (.lst [])) Pd (.dK (mergeK [] [(Sum.inl (start : Int), .ref e0)]))) := Same.mut (Same.new' (Same.new hPd) he0) hPd
  have S2 := Same.new' (o := .lst [.int (start : Int)]) S1 hlv0
  refine ⟨fun m σ H' => ∃ (i : Nat) (lv : Addr) (x4 x5 x6 x7 x8 : Option V), m = ls.length - i ∧ σ = [some (.ref a), some (.int start), some (.ref Pd), some (.ref lv), x4, x5, x6, x7, x8] ∧ Same H H' ∧ lv ≠ Pd ∧ H' lv = some (.lst (nvs (bfs ls start i).2)) ∧
    ∃ kvs, H' Pd = some (.dK kvs) ∧ PD (also M Pd) H' kvs (bfs ls start i).1, ⟨_, 0, lv0, none, none, none, none, none, rfl, rfl, S2, neL, upd_same, _, by rw [upd_ne neL.symm]; exact upd_same, ?_⟩, ?_⟩
  · refine ⟨rfl, .cons (.lst ?_ ?_ .nil) .nil⟩
    · exact fun z => z.elim (mok.new hH0) ne0
    · rw [upd_ne (ne_of_none (by rw [upd_ne ne0]; exact upd_same) hlv0), upd_ne ne0]
      exact upd_same
  rintro m σ H1 ⟨i, lv, x4, x5, x6, x7, x8, rfl, rfl, sm, nlv, hlv, kvs, hkv, pd⟩
  have B := bfs_inv hin hst i
  refine ⟨_, rfl, _, .inl ⟨_, SqL.of hlv, rfl⟩, ite2 (fun e => ?_) (fun e => ?_)⟩
  · have il : i < ls.length := by
      refine Classical.byContradiction fun z => ?_
      rw [bfs_end hin hst (by omega)] at e
      cases e
    refine ⟨fun σ' H' => ∃ (lv : Addr) (x4 x5 x6 x7 x8 : Option V), σ' = [some (.ref a), some (.int start), some (.ref Pd), some (.ref lv), x4, x5, x6, x7, x8] ∧ Same H H' ∧ lv ≠ Pd ∧ H' lv = some (.lst (nvs (bfs ls start (i + 1)).2)) ∧
      ∃ kvs, H' Pd = some (.dK kvs) ∧ PD (also M Pd) H' kvs (bfs ls start (i + 1)).1, fun σ' H' ⟨lv, x4, x5, x6, x7, x8, h⟩ => ⟨ls.length - (i + 1), by omega, i + 1, lv, x4, x5, x6, x7, x8, rfl, h⟩, ?_⟩
    refine ⟨by decide, fun Dl hDl => ?_⟩
    have w0 : WS M H Pd Dl (upd H1 Dl (.lst [])) ((bfs ls start i).1, []) := ⟨Same.new' sm hDl, mok, hPd, Same.back sm hDl, ne_of_none hkv hDl, ⟨kvs, by rw [upd_ne (ne_of_none hkv hDl)]; exact hkv, (pd.also hDl).upd (.inr rfl)⟩, upd_same⟩
    have hlv1 : upd H1 Dl (.lst []) lv = some (.lst (nvs (bfs ls start i).2)) := by rw [upd_ne (ne_of_none hlv hDl)]; exact hlv
    have nlD : lv ≠ Dl := ne_of_none hlv hDl
    refine ⟨_, rfl, lv, rfl, ⟨_, SqL.of hlv1⟩, for_it (walk_list (xs := nvs (bfs ls start i).2)) (fun j σ' H' => ∃ (x5 x6 x7 x8 : Option V), σ' = [some (.ref a), some (.int start), some (.ref Pd), some (.ref lv), some (.ref Dl), x5, x6, x7, x8] ∧
      H' lv = some (.lst (nvs (bfs ls start i).2)) ∧ WS M H Pd Dl H' (((bfs ls start i).2.take j).foldl (vNode ls) ((bfs ls start i).1, []))) ⟨_, _, _, _, rfl, hlv1, w0⟩ ?_ ?_ ?_⟩
    · rintro j σ' H' _ ⟨_, _, _, _, _, h2, _⟩
      exact SqL.of h2
    · rintro j x σ' H2 H3 hj ⟨y5, y6, y7, y8, rfl, hlv2, W⟩ ⟨rfl, hx⟩
      obtain ⟨hj', rfl⟩ := nvs_get hx
      have mem : (bfs ls start i).2.getD j 0 ∈ (bfs ls start i).2 := by
        have : (bfs ls start i).2.getD j 0 = (bfs ls start i).2[j] := by simp [List.getD, List.getElem?_eq_getElem hj']
        rw [this]
        exact List.getElem_mem hj'
      have R0 : RInv ls start (bfs ls start i).1 (bfs ls start i).1 [] := ⟨B.inv, [], by simp, rfl⟩
      obtain ⟨Rj, kj, _⟩ := vNodes_inv hin ((bfs ls start i).2.take j) ((bfs ls start i).1, []) (fun n hn => B.sub n (List.mem_of_mem_take hn)) R0
      have Lj := vNodes_len ((bfs ls start i).2.take j) (s := ((bfs ls start i).1, [])) (ls := ls) (fun n hn => B.sub n (List.mem_of_mem_take hn)) (bfs_len hin hst i)
      have e3 : (bfs ls start i).2.take (j + 1) = (bfs ls start i).2.take j ++ [(bfs ls start i).2.getD j 0] := by
        rw [List.take_succ, List.getElem?_eq_getElem hj']
        simp [List.getD, List.getElem?_eq_getElem hj']
      rw [e3, List.foldl_append]
      have nin := kj _ (B.sub _ mem)
      have nlt : (bfs ls start i).2.getD j 0 < ls.length := by
        obtain ⟨p, hp, e⟩ := List.mem_map.mp (B.sub _ mem)
        rw [← e]
        exact B.inv.lt p hp
      generalize ((bfs ls start i).2.take j).foldl (vNode ls) ((bfs ls start i).1, []) = S at Rj kj Lj W nin ⊢
      generalize (bfs ls start i).2.getD j 0 = nod at mem nin nlt ⊢
      obtain ⟨y, hy, dy⟩ := hall.nth' nlt []
      obtain ⟨ra, rs, rfl, rm, hra, rl, rall, _⟩ := dy.items linkD (ls.getD nod [])
      refine ⟨_, rfl, _, rfl, a, _, _, .ref ra, rfl, rfl, SqL.of (W.sm _ _ ha), atI_nat hy, ra, rfl, ⟨_, SqL.of (W.sm _ _ hra)⟩, ?_⟩
      refine for_it (walk_list (xs := rs)) (fun q σ' H' => ∃ (x6 x7 x8 : Option V), σ' = [some (.ref a), some (.int start), some (.ref Pd), some (.ref lv), some (.ref Dl), some (.int (nod : Int)), x6, x7, x8] ∧
        H' lv = some (.lst (nvs (bfs ls start i).2)) ∧ WS M H Pd Dl H' (((ls.getD nod []).take q).foldl (vLink nod) S)) ⟨_, _, _, rfl, hlv2, W⟩ ?_ ?_ ?_
      · rintro q σ' H' _ ⟨_, _, _, _, _, W'⟩
        exact SqL.of (W'.sm _ _ hra)
      · rintro q x σ' H4 H5 hq ⟨z6, z7, z8, rfl, hlv4, W'⟩ ⟨rfl, hx⟩
        obtain ⟨hq', dx⟩ := rall.nth hx (0, 0, 0)
        obtain ⟨t, rfl, ht⟩ := Dd.link _ dx
        obtain ⟨Rq, kq, _⟩ := vLinks_inv hin ((ls.getD nod []).take q) S (fun l hl => List.mem_of_mem_take hl) nin Rj
        obtain ⟨Lq, nq⟩ := vLinks_len ((ls.getD nod []).take q) (s := S) nin Lj
        have e4 : (ls.getD nod []).take (q + 1) = (ls.getD nod []).take q ++ [(ls.getD nod []).getD q (0, 0, 0)] := take_next _ _ _ hq'
        rw [e4, List.foldl_append]
        have nin2 := nq _ nin
        generalize ((ls.getD nod []).take q).foldl (vLink nod) S = S' at Rq kq Lq nq W' nin2 ⊢
        generalize (ls.getD nod []).getD q (0, 0, 0) = l at ht ⊢
        obtain ⟨li, lw, lo⟩ := l
        obtain ⟨kv', hkv', pd'⟩ := W'.d
        refine ⟨t, _, rfl, SqT.of (W'.sm _ _ ht), rfl, _, _, rfl, _, _, rfl, _, _, rfl, ⟨rfl, ?_⟩⟩
        refine ⟨_, rfl, _, rfl, Pd, _, rfl, DGet.k (k := Sum.inl (lo : Int)) hkv', _, rfl, ?_⟩
        cases hp : phas S'.1 lo with
        | true =>
          obtain ⟨v', hv', _⟩ := pd'.has hp
          rw [hv']
          refine iteF ?_
          have : List.foldl (vLink nod) S' [(li, lw, lo)] = S' := by
            show vLink nod S' (li, lw, lo) = S'
            unfold vLink
            rw [if_pos hp]
          rw [this]
          exact ⟨_, _, _, rfl, hlv4, W'⟩
        | false =>
          rw [pd'.hasNo hp]
          refine iteT ?_
          obtain ⟨pv', hpv, dpv⟩ := pd'.has (phas_iff.mpr nin2)
          obtain ⟨pa, ps', rfl, pm, hpa, pl, pall, _⟩ := dpv.items stepD (pget S'.1 nod)
          have few := Rq.inv.few
          have lp : (pget S'.1 nod).length < S'.1.length := Lq _ (pget_mem (phas_iff.mpr nin2))
          refine ⟨_, rfl, _, rfl, Pd, .ref pa, rfl, ?_, ?_⟩
          · exact hpv ▸ DGet.k (k := Sum.inl (nod : Int)) hkv'
          refine ⟨_, rfl, _, rfl, by show 2 ≤ sizeLine; decide, fun t1 ht1 => ⟨by show 1 ≤ sizeLine; decide, fun l1 hl1 => ?_⟩⟩
          have s5 : Same H5 (upd H5 t1 (.tup [.int (li : Int), .int lw])) := Same.new ht1
          have s6 := Same.new' (o := .lst [.ref t1]) s5 hl1
          refine ⟨pa, l1, _, _, rfl, rfl, s6 _ _ hpa, upd_same, by show _ ≤ 16777216; simp; omega, fun p1 hp1 => ?_⟩
          have s7 := Same.new' (o := .lst (ps' ++ [.ref t1])) s6 hp1
          refine ⟨_, rfl, _, rfl, Pd, _, rfl, DPut.k (k := Sum.inl (lo : Int)) (s7 _ _ hkv') (by rw [pd'.len]; show _ < 16777216; omega), ?_⟩
          rw [putK_new _ (pd'.hasNo hp)]
          have hPdDl := W'.ne
          have W7 := W'.same s7
          have mo2 : MOk (also (also M Pd) Dl) H5 := ((mok.same W'.sm).also hkv').also W'.l
          have nt1 : ¬ also (also M Pd) Dl t1 := mo2.new ht1
          have np1 : ¬ also (also M Pd) Dl p1 := (mo2.same s6).new hp1
          have d7 : Dd (also (also M Pd) Dl) (upd (upd (upd H5 t1 (.tup [.int (li : Int), .int lw])) l1 (.lst [.ref t1])) p1 (.lst (ps' ++ [.ref t1]))) (.ref p1) (walkD (pget S'.1 nod ++ [(li, lw)])) := by
            refine .lst np1 upd_same ?_
            rw [List.map_append]
            refine (pall.same s7).append (.cons (mk_stp (li, lw) nt1 ?_) .nil)
            have a1 : upd H5 t1 (.tup [.int (li : Int), .int lw]) t1 = some (.tup [.int (li : Int), .int lw]) := upd_same
            have a2 : upd (upd H5 t1 (.tup [.int (li : Int), .int lw])) l1 (.lst [.ref t1]) t1 = _ := Same.new hl1 _ _ a1
            exact Same.new hp1 _ _ a2
          refine ⟨_, rfl, .inl ⟨rfl, _, SqL.of (xs := nvs S'.2) ?_⟩, _, rfl, Dl, nvs S'.2, _, rfl, rfl, ?_, ?_, ?_⟩
          · rw [upd_ne hPdDl.symm]; exact s7 _ _ W'.l
          · rw [upd_ne hPdDl.symm]; exact s7 _ _ W'.l
          · obtain ⟨new, en, em⟩ := Rq.ext
            have : S'.2.length ≤ S'.1.length := by rw [← em, en]; simp
            rw [nvs_len]; show _ < 16777216; omega
          · refine ⟨_, _, _, rfl, ?_, ?_⟩
            · rw [upd_ne nlD, upd_ne nlv]; exact s7 _ _ hlv4
            · have st : List.foldl (vLink nod) S' [(li, lw, lo)] = (S'.1 ++ [(lo, pget S'.1 nod ++ [(li, lw)])], S'.2 ++ [lo]) := by
                show vLink nod S' (li, lw, lo) = _
                unfold vLink
                rw [if_neg (by rw [hp]; exact Bool.false_ne_true)]
              rw [st]
              refine ⟨Same.mut (Same.mut W7.sm hPd) W'.fd, mok, hPd, W'.fd, hPdDl, ⟨_, by rw [upd_ne hPdDl]; exact upd_same, ?_⟩, by rw [upd_same, nvs_snoc]⟩
              exact (((pd'.same s7).snoc d7).upd (.inl (.inr rfl))).upd (.inr rfl)
      · rintro σ' H' ⟨z6, z7, z8, rfl, hlv4, W'⟩
        rw [rl, List.take_of_length_le (Nat.le_refl _)] at W'
        exact ⟨_, _, _, _, rfl, hlv4, W'⟩
    · rintro σ' H' ⟨y5, y6, y7, y8, rfl, hlv2, W⟩
      rw [nvs_len, List.take_of_length_le (Nat.le_refl _)] at W
      obtain ⟨kv', hkv', pd'⟩ := W.d
      exact ⟨_, rfl, Dl, _, _, _, _, _, rfl, W.sm, W.ne.symm, W.l, kv', hkv', pd'.less fun a h => .inl h⟩
  · have e' : (bfs ls start i).2 = [] := by
      cases q : (bfs ls start i).2 with
      | nil => rfl
      | cons x r =>
        rw [q] at e
        exact absurd rfl e
    refine ⟨_, rfl, k Pd _ kvs sm hPd hkv ?_⟩
    rw [← bfs_done hin hst e']
    exact pd
end
end Tt
set_option Elab.async false
set_option linter.all false
set_option maxRecDepth 100000
set_option maxHeartbeats 4000000
/-! solving: components_of -/
namespace Tt
open PySem PySem.Spec PyProof.Rows L2 He
/-- a dict comprehension over a walk -/
theorem dc_it {J : It} {n : Nat} {G : Hp → Prop} {Y : Nat → Hp → V → Hp → Prop} (w : L2.Walk J n G Y) {g : TG} {tt : TT} {tk tv : TE} {vs : List Nat} {σ : L2.St} {H1 : Hp} {D : Addr} {Qd : Hp → Prop} (Pv : Nat → Hp → Prop) (h0 : Pv 0 (upd H1 D (.dK []))) (hG : ∀ i H, i ≤ n → Pv i H → G H)
    (hs : ∀ i x H H', i < n → Pv i H → Y i H x H' → g x (wipe σ vs) H' fun σ2 H2 => wipe σ2 vs = wipe σ vs ∧ tt σ2 H2 fun b H3 =>
      if b = true then tk σ2 H3 fun y H4 => tv σ2 H4 fun z H5 => ∃ kvs k, y = kV k ∧ H5 D = some (.dK kvs) ∧ kvs.length < sizeLine ∧ Pv (i + 1) (upd H5 D (.dK (putK kvs k z))) else Pv (i + 1) H3) (hd : ∀ H, Pv n H → Qd H) :
    ∃ W : Nat → Nat → Hp → Prop, (∃ m, W 0 m (upd H1 D (.dK []))) ∧ ∀ i m H, W i m H →
      (J.stop i H ∧ Qd H) ∨ (J.go i H ∧ ∃ Nx : Hp → Prop, (∀ H', Nx H' → ∃ m', m' < m ∧ W (i + 1) m' H') ∧ ∀ x H', J.yld i H x H' → g x (wipe σ vs) H' fun σ2 H2 => wipe σ2 vs = wipe σ vs ∧ tt σ2 H2 fun b H3 =>
        if b = true then tk σ2 H3 fun y H4 => tv σ2 H4 fun z H5 => ∃ kvs k, y = kV k ∧ H5 D = some (.dK kvs) ∧ kvs.length < sizeLine ∧ Nx (upd H5 D (.dK (putK kvs k z))) else Nx H3) := by
  refine ⟨fun i m H => m = n - i ∧ i ≤ n ∧ Pv i H, ⟨n, by simp, Nat.zero_le _, h0⟩, ?_⟩
  rintro i m H ⟨rfl, hi, p⟩
  have q := hG i H hi p
  by_cases hlt : i < n
  · refine .inr ⟨w.goes i H hlt q, Pv (i + 1), fun H' p' => ⟨n - (i + 1), by omega, rfl, hlt, p'⟩, fun x H' y => hs i x H H' hlt p (w.yields i H x H' hlt q y)⟩
  · have e : i = n := by omega
    subst e
    exact .inl ⟨w.stops H q, hd H p⟩
theorem walk_rangeN {n : Nat} : L2.Walk (Itr 0 n) n (fun _ => True) (fun i H x H' => H' = H ∧ x = .int (i : Nat)) :=
  walk_range.mono (fun _ h => h) fun i H x H' _ _ y => ⟨y.1, by rw [y.2]; show V.int (0 + (i : Nat)) = _; rw [Int.zero_add]⟩
theorem mergeK_some {k : Key} {v : V} : ∀ (ls ks : List (Key × V)), valV (mergeK ks ls) k = some v → (∃ u, valV ks k = some u) ∨ ∃ u, valV ls k = some u
  | [], ks, h => .inl ⟨v, h⟩
  | kv :: ls, ks, h => by
    have h' : valV (mergeK (putK ks kv.1 kv.2) ls) k = some v := h
    rcases mergeK_some ls _ h' with ⟨u, h2⟩ | ⟨u, h2⟩
    · rw [valV_put] at h2
      split at h2
      · rename_i e
        exact .inr ⟨kv.2, valV_pos e.symm⟩
      · exact .inl ⟨u, h2⟩
    · by_cases e : kv.1 = k
      · exact .inr ⟨kv.2, valV_pos e⟩
      · exact .inr ⟨u, by rw [valV_neg e]; exact h2⟩
/-- the node is in a group whose first can be reached from where it can -/
def Cov (ls : List (List Link)) (gs : List (List Nat)) (n : Nat) : Prop := ∃ g g0 s, g ∈ gs ∧ g[0]? = some g0 ∧ s < ls.length ∧ n ∈ (walkPaths ls s).map (·.1) ∧ g0 ∈ (walkPaths ls s).map (·.1)
structure CompsOk (ls : List (List Link)) (gs : List (List Nat)) : Prop where
  ne : ∀ g, g ∈ gs → ∃ g0, g[0]? = some g0 ∧ g0 < ls.length
  cov : ∀ n, n < ls.length → Cov ls gs n
  few : gs.length ≤ ls.length
theorem Cov.snoc {ls : List (List Link)} {gs : List (List Nat)} {n : Nat} {g : List Nat} (h : Cov ls gs n) : Cov ls (gs ++ [g]) n := by
  obtain ⟨a, b, s, h1, h2⟩ := h
  exact ⟨a, b, s, List.mem_append_left _ h1, h2⟩
theorem perm_nats {ys : List Int} {ks : List Nat} (h : ys.Perm (ks.map fun (n : Nat) => (n : Int))) : ∃ g : List Nat, ys = g.map (fun (n : Nat) => (n : Int)) ∧ g.Perm ks := by
  refine ⟨ys.map Int.toNat, ?_, ?_⟩
  · rw [List.map_map]
    have : ∀ y ∈ ys, ((fun (n : Nat) => (n : Int)) ∘ Int.toNat) y = y := fun y hy => by
      obtain ⟨n, _, rfl⟩ := List.mem_map.mp (h.mem_iff.mp hy)
      simp
    rw [List.map_congr_left this, List.map_id']
  · have := h.map Int.toNat
    rw [List.map_map] at this
    have e : ks.map (Int.toNat ∘ fun (n : Nat) => (n : Int)) = ks := by
      rw [List.map_congr_left (g := id) (fun n _ => by simp)]
      simp
    rw [e] at this
    exact this
section
variable {P : Program} {w : World} {K : PySem.W.Frag} {mg : Str → Option Value} {base : Heap}
abbrev n_comps : List Str := ["links", "found", "seen", "node", "component", "other"]
theorem sc_comps : FnScope n_comps ["links"] (defScope s_components_of) := ⟨rfl, rfl, rfl, by decide +kernel, rfl, by decide +kernel, by decide +kernel⟩
def spComps : Sp := fun vs H Q _ => vs.length = 1 ∧ ∃ (M : Ms) (v : V) (ls : List (List Link)), vs = [v] ∧ MOk M H ∧ Dd M H v (linksD ls) ∧ LinksIn ls ∧ ls.length ≤ 30 ∧
  ∀ r H' gs, Same H H' → Dd M H' r (groupsD gs) → CompsOk ls gs → Q r H'
theorem ok_comps (T : Tx K mg) : Gd P w K mg base 2 (ga K "components_of") ["links"] spComps := by
  have G1 : Gd P w K mg base 1 (ga K "walk_paths") ["links", "start"] spWalk := ok_walk T
  refine gd_of T.f_components_of sc_comps (fun _ _ _ _ _ _ us hl => match us, hl with | [_], _ => rfl) (fun _ _ _ _ h => h.1) (fun cdv A outer s H vs Q E hr h => ?_)
  obtain ⟨_, M, v, ls, rfl, mok, hv, hin, hln, k⟩ := h
  obtain ⟨a, xs, ea, hm, ha, hl, hall, _⟩ := hv.items (fun xs : List Link => .list (xs.map linkD)) ls
  have nd := sc_comps.nd
  have hu := hu_of hr
  refine ⟨_, pss_cons (ps_set (i := 1) nd rfl (Or.inl rfl) (pe_lst pa_nil))
    (pss_cons (ps_set (i := 2) nd rfl (Or.inl rfl) pe_dnewK)
    (pss_cons (ps_for PassesOwn.never rfl (pi_range1 (by rfl) T.n_range (pa_cons (pe_len (pv 0) rfl T.n_len) pa_nil)) (pg_name (i := 3) nd rfl (Or.inl rfl))
      (pss_one (ps_if (pt_cmp (pc_dnotin hu (pv 3) (pv 2)) (by rfl))
        (pss_cons (ps_set (i := 4) nd rfl (Or.inl rfl) (pe_callB (call_sortedDI rfl) (by rfl) T.n_sorted (by decide +kernel) (pa_cons (pe_callG G1 hr rfl T.g_walk_paths (pa_cons (pv 0) (pa_cons (pv 3) pa_nil))) pa_nil)))
        (pss_cons (ps_expr (pe_bm PySem.F.plainAttrs_dict PySem.F.slot_dict_update PySem.F.type_dict_update mt_dupdate (pv 2) (pa_cons
          (pe_dc (own := [("other", 5)]) (g := gName 5) (tt := tYes) rfl nd (pi_list (pv 4)) (blkOk_by (N := n_comps) (sc := defScope s_components_of) (by decide +kernel))
            (fun _ _ _ _ _ => pg_name (i := 5) nd rfl (Or.inl rfl)) (fun _ _ _ _ _ => pts_nil) (fun _ _ _ _ _ => pv 5) (fun _ _ _ _ _ => pe_bl)) pa_nil)))
        (pss_one (ps_expr (pe_bm PySem.F.plainAttrs_list PySem.F.slot_list_append PySem.F.type_list_append mt_append (pv 1) (pa_cons (pv 4) pa_nil))))))
        pss_nil)))
    (pss_one (ps_ret (pv 1))))), ?_⟩
  subst ea
  refine ⟨by decide, fun Fd hFd Sd hSd => ?_⟩
  have neS : Fd ≠ Sd := ne_of_none upd_same hSd
  have hSd0 : H Sd = none := by rw [upd_ne neS.symm] at hSd; exact hSd
  have S1 : Same H (upd (upd H Fd (.lst [])) Sd (.dK [])) := Same.new' (Same.new hFd) hSd
  refine ⟨_, rfl, a, xs, rfl, .inl (SqL.of (S1 _ _ ha)), (xs.length : Int), rfl, by omega, by omega, ?_⟩
  refine for_it (walk_rangeN (n := (xs.length : Int).toNat)) (fun i σ H' => ∃ (x3 x4 x5 : Option V) (fs : List V) (gs : List (List Nat)) (kvs : List (Key × V)), σ = [some (.ref a), some (.ref Fd), some (.ref Sd), x3, x4, x5] ∧ Same H H' ∧
    H' Fd = some (.lst fs) ∧ DdAll (also (also M Fd) Sd) H' fs (gs.map natsD) ∧ H' Sd = some (.dK kvs) ∧ kvs.length ≤ 30 * i ∧ gs.length ≤ i ∧
    (∀ g, g ∈ gs → ∃ g0, g[0]? = some g0 ∧ g0 < ls.length) ∧ (∀ n, n < i → Cov ls gs n) ∧ ∀ (n : Nat) u, valV kvs (Sum.inl (n : Int)) = some u → Cov ls gs n)
    ⟨none, none, none, [], [], [], rfl, S1, by rw [upd_ne neS]; exact upd_same, .nil, upd_same, Nat.le_refl _, Nat.le_refl _, fun g h => absurd h List.not_mem_nil, fun n h => absurd h (Nat.not_lt_zero _), fun n u h => by cases h⟩ (fun _ _ _ _ _ => trivial) ?_ ?_
  · rintro i x σ H1 H2 hi ⟨x3, x4, x5, fs, gs, kvs, rfl, sm, hF, dF, hS, kl, gl, gne, cv, sn⟩ ⟨rfl, rfl⟩
    have il : i < ls.length := by omega
    refine ⟨_, rfl, _, rfl, Sd, _, rfl, DGet.k (k := Sum.inl (i : Int)) hS, _, rfl, ?_⟩
    cases hp : valV kvs (Sum.inl (i : Int)) with
    | some u =>
      refine iteF ?_
      refine ⟨_, _, _, fs, gs, kvs, rfl, sm, hF, dF, hS, by omega, by omega, gne, fun n hn => ?_, sn⟩
      by_cases e : n = i
      · rw [e]; exact sn i u hp
      · exact cv n (by omega)
    | none =>
      refine iteT ?_
      have mo : MOk (also (also M Fd) Sd) H2 := ((mok.same sm).also hF).also hS
      refine ⟨_, rfl, _, rfl, rfl, also (also M Fd) Sd, _, i, ls, rfl, mo, ?_, hin, il, hln, fun p H3 kv3 s3 np hp3 pd => ?_⟩
      · exact (((hv.also hFd).also hSd0).same sm)
      refine ⟨p, kv3, (walkPaths ls i).map (fun p => (p.1 : Int)), rfl, .inl hp3, ?_, ?_, fun ys C hperm _ hC => ?_⟩
      · rw [pd.k, List.map_map]; rfl
      · have := (walkPaths_inv hin il).few
        simp; omega
      have hperm' : ys.Perm (((walkPaths ls i).map (·.1)).map fun (n : Nat) => (n : Int)) := by
        rw [List.map_map]; exact hperm
      obtain ⟨g, rfl, gp⟩ := perm_nats hperm'
      have eg : (g.map fun (n : Nat) => (n : Int)).map V.int = nvs g := by rw [List.map_map]; rfl
      rw [eg]
      have s4 := Same.new' (o := .lst (nvs g)) s3 hC
      have glen : g.length ≤ 30 := by
        have := gp.length_eq
        have := (walkPaths_inv hin il).few
        simp at *; omega
      have hC4 : upd H3 C (.lst (nvs g)) C = some (.lst (nvs g)) := upd_same
      have nC : ¬ also (also M Fd) Sd C := (mo.same s3).new hC
      generalize upd H3 C (.lst (nvs g)) = H4 at s4 hC4 ⊢
      refine ⟨_, rfl, .inr (.inr (.inl ⟨rfl, .inl ⟨_, s4 _ _ hS⟩⟩)), _, rfl, C, rfl, ⟨_, SqL.of hC4⟩, fun D hD => dc_it (walk_list (xs := nvs g)) (fun j H' => Same H4 H' ∧ ∃ kd, H' D = some (.dK kd) ∧ kd.length ≤ j ∧ ∀ (n : Nat) u, valV kd (Sum.inl (n : Int)) = some u → n ∈ g)
        ⟨Same.new hD, [], upd_same, Nat.le_refl _, fun n u h => by cases h⟩ (fun j H' _ h => SqL.of (h.1 _ _ hC4)) ?_ ?_⟩
      · rintro j x H5 H6 hj ⟨s5, kd, hkd, kdl, kdm⟩ ⟨rfl, hx⟩
        obtain ⟨hj', rfl⟩ := nvs_get hx
        refine ⟨rfl, ?_⟩
        refine ⟨_, rfl, kd, Sum.inl ((g.getD j 0 : Nat) : Int), rfl, hkd, by show _ < 16777216; omega, Same.mut s5 hD, _, upd_same, Nat.le_trans (length_putK _ _ _) (by omega), fun n u h => ?_⟩
        rw [valV_put] at h
        split at h
        · rename_i e
          have e' := key_nat.mp e
          rw [e']
          have : g.getD j 0 = g[j] := by simp [List.getD, List.getElem?_eq_getElem hj']
          rw [this]
          exact List.getElem_mem hj'
        · exact kdm n u h
      · rintro H5 ⟨s5, kd, hkd, kdl, kdm⟩
        rw [nvs_len] at kdl
        have hS5 := s5 _ _ (s4 _ _ hS)
        have neD : Sd ≠ D := ne_of_none (s4 _ _ hS) hD
        refine ⟨Sd, D, kvs, kd, rfl, rfl, neD, hS5, hkd, by show _ ≤ 16777216; omega, ?_⟩
        have sT : Same H H5 := Same.trans' (Same.trans' sm s4) s5
        have hF5 : upd H5 Sd (.dK (mergeK kvs kd)) Fd = some (.lst fs) := by rw [upd_ne neS]; exact s5 _ _ (s4 _ _ hF)
        have nCS : C ≠ Sd := fun z => nC (.inr z)
        have hC5 : upd H5 Sd (.dK (mergeK kvs kd)) C = some (.lst (nvs g)) := by rw [upd_ne nCS]; exact s5 _ _ hC4
        refine ⟨_, rfl, .inl ⟨rfl, _, SqL.of hF5⟩, _, rfl, Fd, fs, _, rfl, rfl, hF5, ?_, ?_⟩
        · have := dF.length
          rw [List.length_map] at this
          show _ < 16777216; omega
        have g0 : ∃ g0, g[0]? = some g0 ∧ g0 < ls.length := by
          have : i ∈ g := gp.mem_iff.mpr (walkPaths_inv hin il).st
          cases g with
          | nil => cases this
          | cons x r =>
            refine ⟨x, rfl, ?_⟩
            have hx : x ∈ (walkPaths ls i).map (·.1) := gp.mem_iff.mp (List.mem_cons_self ..)
            obtain ⟨q, hq, e⟩ := List.mem_map.mp hx
            rw [← e]
            exact (walkPaths_inv hin il).lt q hq
        obtain ⟨z0, hz0, zl⟩ := g0
        have cvg : ∀ n, n ∈ g → Cov ls (gs ++ [g]) n := fun n hn => ⟨g, z0, i, by simp, hz0, il, gp.mem_iff.mp hn, gp.mem_iff.mp (List.mem_of_getElem? hz0)⟩
        refine ⟨_, _, _, _, gs ++ [g], mergeK kvs kd, rfl, Same.mut (Same.mut sT hSd0) hFd, upd_same, ?_, by rw [upd_ne neS.symm]; exact upd_same, Nat.le_trans (length_mergeK kd kvs) (by omega), by simp; omega, ?_, ?_, ?_⟩
        · rw [List.map_append]
          refine DdAll.append ?_ (.cons ?_ .nil)
          · exact (((dF.same s4).same s5).upd (.inr rfl)).upd (.inl (.inr rfl))
          · exact (mk_nats nC hC5).upd (.inl (.inr rfl))
        · intro g' hg'
          rcases List.mem_append.mp hg' with h | h
          · exact gne g' h
          · rw [List.mem_singleton.mp h]; exact ⟨z0, hz0, zl⟩
        · intro n hn
          by_cases e : n = i
          · rw [e]; exact cvg i (gp.mem_iff.mpr (walkPaths_inv hin il).st)
          · exact (cv n (by omega)).snoc
        · intro n u h
          rcases mergeK_some _ _ h with ⟨u', h'⟩ | ⟨u', h'⟩
          · exact (sn n u' h').snoc
          · exact cvg n (kdm n u' h')
  · rintro σ H1 ⟨x3, x4, x5, fs, gs, kvs, rfl, sm, hF, dF, hS, kl, gl, gne, cv, sn⟩
    have en : (xs.length : Int).toNat = ls.length := by omega
    rw [en] at cv gl
    exact ⟨_, rfl, k _ _ gs sm (.lst (mok.new hFd) hF (dF.less fun a h => .inl (.inl h))) ⟨gne, cv, gl⟩⟩
end
end Tt
set_option Elab.async false
set_option linter.all false
set_option maxRecDepth 100000
set_option maxHeartbeats 4000000
/-! solving: System -/
namespace Tt
open PySem PySem.Spec PyProof.Rows L2 He
/-! ### a thing that is being made -/
def Sx (x : Addr) (H H' : Hp) : Prop := (∀ b o, b ≠ x → H b = some o → H' b = some o) ∧ ∃ o, H' x = some o
section
variable {x : Addr} {H H' H'' : Hp} {M : Ms} {v : V} {d : PyData}
theorem Sx.refl (h : ∃ o, H x = some o) : Sx x H H := ⟨fun _ _ _ e => e, h⟩
theorem Sx.same (s : Sx x H H') (k : Same H' H'') : Sx x H H'' := ⟨fun b o n e => k _ _ (s.1 b o n e), let ⟨o, e⟩ := s.2; ⟨o, k _ _ e⟩⟩
theorem Sx.upd {o : HO} (s : Sx x H H') : Sx x H (L2.upd H' x o) := ⟨fun b u n e => by rw [upd_ne n]; exact s.1 b u n e, o, upd_same⟩
theorem Sx.trans (s : Sx x H H') (k : Sx x H' H'') : Sx x H H'' := ⟨fun b o n e => k.1 b o n (s.1 b o n e), k.2⟩
theorem Dd.sx (h : Dd M H v d) (s : Sx x H H') (m : M x) : Dd M H' v d := Dd.move (fun a o n e => ⟨n, s.1 a o (fun z => n (z ▸ m)) e⟩) d v h
theorem MOk.sx (h : MOk M H) (s : Sx x H H') : MOk M H' := fun a m => by
  by_cases e : a = x
  · rw [e]; exact s.2
  · obtain ⟨o, q⟩ := h a m
    exact ⟨o, s.1 a o e q⟩
theorem Sx.fresh {b : Addr} (s : Sx x H H') (n : H' b = none) : H b = none := by
  cases e : H b with
  | none => rfl
  | some o =>
    by_cases z : b = x
    · obtain ⟨u, q⟩ := s.2
      rw [z, q] at n
      cases n
    · rw [s.1 b o z e] at n
      cases n
end
abbrev Row := Nat × Nat × Int
def rowD (r : Row) : PyData := .tuple [.int (r.1 : Int), .int (r.2.1 : Int), .int r.2.2]
def rowsD (rs : List Row) : PyData := .list (rs.map rowD)
def ends (rs : List Row) : List Edge := rs.map fun r => (r.1, r.2.1)
theorem Dd.row {M : Ms} {H : Hp} {v : V} (r : Row) (h : Dd M H v (rowD r)) : ∃ a, v = .ref a ∧ H a = some (.tup [.int (r.1 : Int), .int (r.2.1 : Int), .int r.2.2]) := Dd.tup_ints (ns := [(r.1 : Int), (r.2.1 : Int), r.2.2]) h
theorem Dd.ints {M : Ms} {H : Hp} {v : V} {ns : List Int} (h : Dd M H v (intsD ns)) : ∃ a, v = .ref a ∧ ¬ M a ∧ H a = some (.lst (ns.map V.int)) := h.list_ints
theorem ints_at {ns : List Int} {i : Nat} (h : i < ns.length) : atI (ns.map V.int) (i : Int) = some (.int (ns.getD i 0)) := by
  refine atI_nat ?_
  simp [List.getD, List.getElem?_eq_getElem h]
theorem ints_get {ns : List Int} {i : Nat} {x : V} (h : (ns.map V.int)[i]? = some x) : i < ns.length ∧ x = .int (ns.getD i 0) := by
  have hi : i < ns.length := by
    have := (List.getElem?_eq_some_iff.mp h).1
    simpa using this
  refine ⟨hi, ?_⟩
  have e : (ns.map V.int)[i]? = some (.int (ns.getD i 0)) := by simp [List.getD, List.getElem?_eq_getElem hi]
  rw [e] at h
  exact (Option.some.inj h).symm
theorem ints_snoc (ns : List Int) (n : Int) : ns.map V.int ++ [.int n] = (ns ++ [n]).map V.int := by simp
/-! ### what it computes -/
def wsum (rs : List Row) (w : Walk) : Int := (w.map fun s => s.2 * (rs.getD s.1 (0, 0, 0)).2.2).sum
def lvP (rs : List Row) (m : Int) (f : List Int) (p : Nat × Walk) : List Int := f.set p.1 (red (0 - wsum rs p.2) m)
def lvG (ls : List (List Link)) (rs : List Row) (m : Int) (f : List Int) (g : List Nat) : List Int := (walkPaths ls (g.getD 0 0)).foldl (lvP rs m) f
def levels (ls : List (List Link)) (rs : List Row) (m : Int) (gs : List (List Nat)) : List Int := gs.foldl (lvG ls rs m) (List.replicate ls.length 0)
theorem lvP_len {rs : List Row} {m : Int} {f : List Int} {p : Nat × Walk} : (lvP rs m f p).length = f.length := by simp [lvP]
theorem foldl_lvP_len {rs : List Row} {m : Int} : ∀ (ps : Pths) (f : List Int), (ps.foldl (lvP rs m) f).length = f.length
  | [], _ => rfl
  | p :: ps, f => by rw [List.foldl_cons, foldl_lvP_len ps, lvP_len]
theorem lvG_len {ls : List (List Link)} {rs : List Row} {m : Int} {f : List Int} {g : List Nat} : (lvG ls rs m f g).length = f.length := foldl_lvP_len _ _
theorem foldl_lvG_len {ls : List (List Link)} {rs : List Row} {m : Int} : ∀ (gs : List (List Nat)) (f : List Int), (gs.foldl (lvG ls rs m) f).length = f.length
  | [], _ => rfl
  | p :: ps, f => by rw [List.foldl_cons, foldl_lvG_len ps, lvG_len]
/-- the steps' indexes and ways -/
def LkOk (ls : List (List Link)) (n : Nat) : Prop := ∀ a l, l ∈ ls.getD a [] → l.1 < n ∧ (l.2.1 = 1 ∨ l.2.1 = -1)
theorem along_ok {ls : List (List Link)} {n a b : Nat} {w : Walk} (k : LkOk ls n) (h : Along ls a w b) : ∀ s, s ∈ w → s.1 < n ∧ (s.2 = 1 ∨ s.2 = -1) := by
  induction h with
  | nil => intro s hs; cases hs
  | snoc h hl ih =>
    intro s hs
    rcases List.mem_append.mp hs with hs | hs
    · exact ih s hs
    · rw [List.mem_singleton.mp hs]
      exact k _ _ hl
def sysF (m : Int) (vr vl vg : V) : List (Str × V) := [("own_modulus", .int m), ("rows", vr), ("links", vl), ("groups", vg)]
structure SysAt (K : PySem.W.Frag) (M : Ms) (H : Hp) (a : Addr) (m : Int) (rs : List Row) (ls : List (List Link)) (gs : List (List Nat)) (dx : Addr) (vr vl vg : V) : Prop where
  at_ : H a = some (.ins (ga K "System") dx (sysF m vr vl vg))
  r : Dd M H vr (rowsD rs)
  l : Dd M H vl (linksD ls)
  g : Dd M H vg (groupsD gs)
theorem SysAt.same {K : PySem.W.Frag} {M : Ms} {H H' : Hp} {a : Addr} {m : Int} {rs : List Row} {ls : List (List Link)} {gs : List (List Nat)} {dx : Addr} {vr vl vg : V} (h : SysAt K M H a m rs ls gs dx vr vl vg) (s : Same H H') : SysAt K M H' a m rs ls gs dx vr vl vg :=
  ⟨s _ _ h.at_, h.r.same s, h.l.same s, h.g.same s⟩
structure SysOk (m : Int) (rs : List Row) (ls : List (List Link)) (gs : List (List Nat)) : Prop where
  li : LinksIn ls
  lk : LkOk ls rs.length
  n : ls.length ≤ 30
  rl : rs.length ≤ 60
  ri : ∀ i, i < rs.length → (rs.getD i (0, 0, 0)).1 < ls.length ∧ (rs.getD i (0, 0, 0)).2.1 < ls.length
  c : CompsOk ls gs
section
variable {P : Program} {w : World} {K : PySem.W.Frag} {mg : Str → Option Value} {base : Heap}
abbrev n_sinit : List Str := ["self", "size", "modulus", "rows", "pairs", "tail", "head", "difference"]
theorem sc_sinit : FnScope n_sinit ["self", "size", "modulus", "rows"] (defScope s_System_init) := ⟨rfl, rfl, rfl, by decide +kernel, rfl, by decide +kernel, by decide +kernel⟩
def spSinit (K : PySem.W.Frag) : Sp := fun vs H Q _ => vs.length = 4 ∧ ∃ (M : Ms) (x dx : Addr) (n : Nat) (m : Int) (v : V) (rs : List Row), vs = [.ref x, .int n, .int m, v] ∧ H x = some (.ins (ga K "System") dx []) ∧ M x ∧ MOk M H ∧ Dd M H v (rowsD rs) ∧
  EdgesIn n (ends rs) ∧ rs.length ≤ 60 ∧ n ≤ 30 ∧ LinksIn (links n (ends rs) (forest n (ends rs))) ∧
  ∀ H' gs vl vg, Sx x H H' → SysAt K M H' x m rs (links n (ends rs) (forest n (ends rs))) gs dx v vl vg → CompsOk (links n (ends rs) (forest n (ends rs))) gs → Q .non H'
theorem ok_sinit (T : Tx K mg) : Gd P w K mg base 3 (ma K (ga K "System") "__init__") ["self", "size", "modulus", "rows"] (spSinit K) := by
  have G1 : Gd P w K mg base 2 (ga K "forest_of") ["size", "pairs"] spForest := (ok_forest T).mono (by decide)
  have G2 : Gd P w K mg base 2 (ga K "links_of") ["size", "pairs", "forest"] spLinks := (ok_links T).mono (by decide)
  have G3 : Gd P w K mg base 2 (ga K "components_of") ["links"] spComps := ok_comps T
  refine gd_of T.f_System_init sc_sinit (fun _ _ _ _ _ _ us hl => match us, hl with | [_, _, _, _], _ => rfl) (fun _ _ _ _ h => h.1) (fun cdv A outer s H vs Q E hr h => ?_)
  obtain ⟨_, M, x, dx, n, m, v, rs, rfl, hx, mx, mok, hv, hin, hle, hn, hli, k⟩ := h
  have nd := sc_sinit.nd
  refine ⟨_, pss_cons (ps_fld (pv 0) (pv 2) rfl)
    (pss_cons (ps_fld (pv 0) (pv 3) rfl)
    (pss_cons (ps_setLc (i := 4) (own := [("tail", 5), ("head", 6), ("difference", 7)]) (g := gTup K 3 (gCons (gName 5) (gCons (gName 6) (gCons (gName 7) gNil)))) (tt := tYes) rfl nd rfl rfl (sw_true rfl rfl rfl (by decide +kernel)) (pi_list (pv 3)) (blkOk_by (N := n_sinit) (sc := defScope s_System_init) (by decide +kernel))
      (fun _ _ _ _ _ => pg_tup rfl (pgs_cons (pg_name (i := 5) nd rfl (Or.inl rfl)) (pgs_cons (pg_name (i := 6) nd rfl (Or.inl rfl)) (pgs_cons (pg_name (i := 7) nd rfl (Or.inl rfl)) pgs_nil)))) (fun _ _ _ _ _ => pts_nil) (fun _ _ _ _ _ => pe_tup (pa_cons (pv 5) (pa_cons (pv 6) pa_nil))))
    (pss_cons (ps_fld (pv 0) (pe_callG G2 hr rfl T.g_links_of (pa_cons (pv 1) (pa_cons (pv 4) (pa_cons (pe_callG G1 hr rfl T.g_forest_of (pa_cons (pv 1) (pa_cons (pv 4) pa_nil))) pa_nil)))) rfl)
    (pss_one (ps_fld (pv 0) (pe_callG G3 hr rfl T.g_components_of (pa_cons (pe_fld (pv 0) rfl) pa_nil)) rfl))))), ?_⟩
  refine ⟨_, rfl, _, rfl, x, _, dx, _, rfl, hx, T.c_System, T.a_System_own_modulus, by decide, ?_⟩
  refine ⟨_, rfl, _, rfl, x, _, dx, _, rfl, upd_same, T.c_System, T.a_System_rows, by show 1 < 1000; decide, ?_⟩
  have S1 : Sx x H (upd (upd H x (.ins (ga K "System") dx (putF "own_modulus" (.int m) []))) x (.ins (ga K "System") dx (putF "rows" v (putF "own_modulus" (.int m) [])))) := (Sx.refl ⟨_, hx⟩).upd.upd
  have hx1 : upd (upd H x (.ins (ga K "System") dx (putF "own_modulus" (.int m) []))) x (.ins (ga K "System") dx (putF "rows" v (putF "own_modulus" (.int m) []))) x = some (.ins (ga K "System") dx [("own_modulus", .int m), ("rows", v)]) := upd_same
  generalize upd (upd H x (.ins (ga K "System") dx (putF "own_modulus" (.int m) []))) x (.ins (ga K "System") dx (putF "rows" v (putF "own_modulus" (.int m) []))) = H1 at S1 hx1 ⊢
  have hv1 := hv.sx S1 mx
  have mok1 := mok.sx S1
  obtain ⟨ra, rx, rfl, rm, hra, rl, rall, _⟩ := hv1.items rowD rs
  refine ⟨_, rfl, ra, rfl, ⟨_, SqL.of hra⟩, fun D hD => lc_it (walk_list (xs := rx)) (fun i H' => Same H1 H' ∧ ∃ ps, H' D = some (.lst ps) ∧ DdAll (also M D) H' ps ((ends (rs.take i)).map edgeD)) ⟨Same.new hD, [], upd_same, .nil⟩ (fun i H' _ h => SqL.of (h.1 _ _ hra)) ?_ ?_⟩
  · rintro i y H2 H3 hi ⟨s2, ps, hps, dps⟩ ⟨rfl, hy⟩
    obtain ⟨hi', dy⟩ := rall.nth hy (0, 0, 0)
    obtain ⟨t, rfl, ht⟩ := Dd.row _ dy
    refine ⟨t, _, rfl, SqT.of (s2 _ _ ht), rfl, _, _, rfl, _, _, rfl, _, _, rfl, ⟨rfl, rfl, ?_⟩⟩
    refine ⟨_, rfl, _, rfl, by show 2 ≤ sizeLine; decide, fun t1 ht1 => ?_⟩
    have s3 := Same.new (o := .tup [.int ((rs.getD i (0, 0, 0)).1 : Int), .int ((rs.getD i (0, 0, 0)).2.1 : Int)]) ht1
    have lp := dps.length
    rw [List.length_map] at lp
    simp only [ends, List.length_map, List.length_take] at lp
    refine ⟨ps, s3 _ _ hps, by show _ < 16777216; omega, Same.mut (Same.trans' s2 s3) hD, _, upd_same, ?_⟩
    have mo := ((mok1.same s2).also hps)
    have e : ends (rs.take (i + 1)) = ends (rs.take i) ++ [((rs.getD i (0, 0, 0)).1, (rs.getD i (0, 0, 0)).2.1)] := by
      rw [take_next rs i (0, 0, 0) hi']; simp [ends]
    rw [e, List.map_append]
    exact ((dps.same s3).upd (.inr rfl)).append (.cons ((mk_edge ((rs.getD i (0, 0, 0)).1, (rs.getD i (0, 0, 0)).2.1) (mo.new ht1) upd_same).upd (.inr rfl)) .nil)
  · rintro H2 ⟨s2, ps, hps, dps⟩
    rw [rl, List.take_of_length_le (Nat.le_refl _)] at dps
    have hx2 := s2 _ _ hx1
    have mok2 := mok1.same s2
    have dP : Dd M H2 (.ref D) (edgesD (ends rs)) := .lst (mok1.new hD) hps (dps.less fun a h => .inl h)
    have el : (ends rs).length ≤ 60 := by simpa [ends] using hle
    refine ⟨_, rfl, _, rfl, _, rfl, _, rfl, rfl, M, n, _, ends rs, rfl, mok2, dP, hin, el, hn, fun rf H3 s3 dF => ?_⟩
    have fl : (forest n (ends rs)).length ≤ 60 := Nat.le_trans (fSt_le n (ends rs) _) el
    refine ⟨rfl, M, n, _, _, ends rs, forest n (ends rs), rfl, mok2.same s3, dP.same s3, dF, hin, fun i hi => forest_lt hin hi, fl, hn, fun rl' H4 s4 dL => ?_⟩
    refine ⟨_, rfl, x, _, dx, _, rfl, s4 _ _ (s3 _ _ hx2), T.c_System, T.a_System_links, by show 2 < 1000; decide, ?_⟩
    have S4 : Sx x H1 (upd H4 x (.ins (ga K "System") dx (putF "links" rl' [("own_modulus", .int m), ("rows", .ref ra)]))) := (((Sx.refl ⟨_, hx1⟩).same s2).same s3).same s4 |>.upd
    have S4' : Sx x H4 (upd H4 x (.ins (ga K "System") dx (putF "links" rl' [("own_modulus", .int m), ("rows", .ref ra)]))) := Sx.upd (Sx.refl ⟨_, s4 _ _ (s3 _ _ hx2)⟩)
    have hx4 : upd H4 x (.ins (ga K "System") dx (putF "links" rl' [("own_modulus", .int m), ("rows", .ref ra)])) x = some (.ins (ga K "System") dx [("own_modulus", .int m), ("rows", .ref ra), ("links", rl')]) := upd_same
    generalize upd H4 x (.ins (ga K "System") dx (putF "links" rl' [("own_modulus", .int m), ("rows", .ref ra)])) = H5 at S4 S4' hx4 ⊢
    have dL5 := dL.sx S4' mx
    refine ⟨_, rfl, x, _, dx, _, _, rfl, hx4, T.c_System, T.a_System_links, rfl, rfl, M, _, _, rfl, mok1.sx S4, dL5, hli, by rw [links_len]; exact hn, fun rg H6 gs s6 dG hC => ?_⟩
    refine ⟨_, rfl, x, _, dx, _, rfl, s6 _ _ hx4, T.c_System, T.a_System_groups, by show 3 < 1000; decide, ?_⟩
    have S6 : Sx x H6 (upd H6 x (.ins (ga K "System") dx (putF "groups" rg [("own_modulus", .int m), ("rows", .ref ra), ("links", rl')]))) := Sx.upd (Sx.refl ⟨_, s6 _ _ hx4⟩)
    refine k _ gs rl' rg ((S1.trans (S4.same s6)).upd) ⟨upd_same, ?_, ?_, ?_⟩ hC
    · exact (((hv1.sx S4 mx).same s6).sx S6 mx)
    · exact ((dL5.same s6).sx S6 mx)
    · exact dG.sx S6 mx
end
end Tt
set_option Elab.async false
set_option linter.all false
/-! Plain mathematics of the web's links, cycles, walks. -/
namespace Tt
section
variable {n : Nat} {es : List Edge}
def lnk (n : Nat) (es : List Edge) : List (List Link) := links n es (forest n es)
theorem mem_lnk (he : EdgesIn n es) {a : Nat} {l : Link} : l ∈ (lnk n es).getD a [] ↔ (l.1 ∈ forest n es ∧ LinkOf es a l) := mem_links he (fun i hi => forest_lt he hi)
theorem lnk_len : (lnk n es).length = n := links_len n es _
theorem lnk_in (he : EdgesIn n es) : LinksIn (lnk n es) := by
  intro a l hl
  obtain ⟨h1, h2⟩ := (mem_lnk he).mp hl
  have h3 := he l.1 (forest_lt he h1)
  rw [lnk_len]
  rcases h2 with ⟨_, e⟩ | ⟨_, e⟩
  · rw [e] at h3; exact h3.2
  · rw [e] at h3; exact h3.1
theorem lnk_ok (he : EdgesIn n es) : LkOk (lnk n es) es.length := by
  intro a l hl
  obtain ⟨h1, h2⟩ := (mem_lnk he).mp hl
  exact ⟨forest_lt he h1, h2.imp (·.1) (·.1)⟩
/-- the keys of the paths from s -/
def Sk (n : Nat) (es : List Edge) (s x : Nat) : Prop := x ∈ (walkPaths (lnk n es) s).map (·.1)
theorem sk_link (he : EdgesIn n es) {s a : Nat} {l : Link} (hs : s < n) (hl : l ∈ (lnk n es).getD a []) : Sk n es s a ↔ Sk n es s l.2.2 := by
  have hs' : s < (lnk n es).length := by rw [lnk_len]; exact hs
  refine ⟨fun h => walkPaths_closed (lnk_in he) hs' h hl, fun h => ?_⟩
  obtain ⟨h1, h2⟩ := (mem_lnk he).mp hl
  have : (l.1, -l.2.1, a) ∈ (lnk n es).getD l.2.2 [] := by
    refine (mem_lnk he).mpr ⟨h1, ?_⟩
    rcases h2 with ⟨w, e⟩ | ⟨w, e⟩
    · right; exact ⟨by simp [w], e⟩
    · left; exact ⟨by simp [w], e⟩
  exact walkPaths_closed (lnk_in he) hs' h this
theorem sk_edge (he : EdgesIn n es) {s i : Nat} (hs : s < n) (hi : i < es.length) : Sk n es s (es.getD i (0, 0)).1 ↔ Sk n es s (es.getD i (0, 0)).2 := by
  refine forest_spans he (S := Sk n es s) (fun j hj => ?_) hi
  have : (j, (1 : Int), (es.getD j (0, 0)).2) ∈ (lnk n es).getD (es.getD j (0, 0)).1 [] := (mem_lnk he).mpr ⟨hj, .inl ⟨rfl, rfl⟩⟩
  exact sk_link he hs this
theorem sk_self (he : EdgesIn n es) {s : Nat} (hs : s < n) : Sk n es s s := (walkPaths_inv (lnk_in he) (by rw [lnk_len]; exact hs)).st
theorem sk_along (he : EdgesIn n es) {s a b : Nat} {w : Walk} (hs : s < n) (h : Along (lnk n es) a w b) : Sk n es s a ↔ Sk n es s b := by
  induction h with
  | nil => exact Iff.rfl
  | snoc h hl ih => exact ih.trans (sk_link he hs hl)
theorem sk_path (he : EdgesIn n es) {s x : Nat} (hs : s < n) (h : Sk n es s x) : Along (lnk n es) s (pget (walkPaths (lnk n es) s) x) x :=
  (walkPaths_inv (lnk_in he) (by rw [lnk_len]; exact hs)).al _ (pget_mem (phas_iff.mpr h))
/-- who can be reached from s, and g from s: then from g, too -/
theorem sk_from (he : EdgesIn n es) {s g x : Nat} (hs : s < n) (hg : g < n) (h1 : Sk n es s g) (h2 : Sk n es s x) : Sk n es g x :=
  (sk_along he hg (sk_path he hs h2)).mp ((sk_along he hg (sk_path he hs h1)).mpr (sk_self he hg))
theorem sk_head (he : EdgesIn n es) {i : Nat} (hi : i < es.length) : Sk n es (es.getD i (0, 0)).2 (es.getD i (0, 0)).1 :=
  (sk_edge he (he i hi).2 hi).mpr (sk_self he (he i hi).2)
/-! ### steps and walks -/
def sEnds (es : List Edge) (s : Stp) : Edge := if s.2 = 1 then es.getD s.1 (0, 0) else ((es.getD s.1 (0, 0)).2, (es.getD s.1 (0, 0)).1)
def StepOk (es : List Edge) (s : Stp) : Prop := s.1 < es.length ∧ (s.2 = 1 ∨ s.2 = -1)
structure WalkOk (es : List Edge) (w : Walk) : Prop where
  ne : w ≠ []
  st : ∀ s, s ∈ w → StepOk es s
  ch : ∀ i, i + 1 < w.length → (sEnds es (w.getD i (0, 0))).2 = (sEnds es (w.getD (i + 1) (0, 0))).1
theorem sEnds_link {a : Nat} {l : Link} (h : LinkOf es a l) : sEnds es (l.1, l.2.1) = (a, l.2.2) := by
  unfold sEnds
  rcases h with ⟨w, e⟩ | ⟨w, e⟩
  · rw [if_pos w, e]
  · rw [if_neg (by show ¬ l.2.1 = 1; rw [w]; decide), e]
theorem getD_append_left {α : Type} {l r : List α} {i : Nat} {d : α} (h : i < l.length) : (l ++ r).getD i d = l.getD i d := by
  simp [List.getD, List.getElem?_append_left h]
theorem getD_append_last {α : Type} {l : List α} {x d : α} : (l ++ [x]).getD l.length d = x := by
  simp [List.getD]
/-- a step, then along the links -/
theorem along_walk (he : EdgesIn n es) {a b : Nat} {w : Walk} (h : Along (lnk n es) a w b) (s0 : Stp) (h0 : StepOk es s0) (e0 : (sEnds es s0).2 = a) :
    WalkOk es (s0 :: w) ∧ (sEnds es ((s0 :: w).getD w.length (0, 0))).2 = b := by
  induction h with
  | nil => exact ⟨⟨by simp, fun s hs => by rw [List.mem_singleton.mp hs]; exact h0, fun i hi => by simp at hi⟩, e0⟩
  | @snoc w b l h hl ih =>
    obtain ⟨⟨i1, i2, i3⟩, i4⟩ := ih
    obtain ⟨h1, h2⟩ := (mem_lnk he).mp hl
    have e := sEnds_link h2
    have c : s0 :: (w ++ [(l.1, l.2.1)]) = (s0 :: w) ++ [(l.1, l.2.1)] := rfl
    refine ⟨⟨by simp, fun s hs => ?_, fun i hi => ?_⟩, ?_⟩
    · rw [c] at hs
      rcases List.mem_append.mp hs with hs | hs
      · exact i2 s hs
      · rw [List.mem_singleton.mp hs]
        exact ⟨forest_lt he h1, h2.imp (·.1) (·.1)⟩
    · rw [c]
      have hi' : i < w.length + 1 := by simpa using hi
      by_cases q : i + 1 < (s0 :: w).length
      · rw [getD_append_left (by omega), getD_append_left q]
        exact i3 i q
      · have ql : i = w.length := by simp at q; omega
        subst ql
        rw [getD_append_left (by simp)]
        have : (s0 :: w ++ [(l.1, l.2.1)]).getD (w.length + 1) (0, 0) = (l.1, l.2.1) := getD_append_last (l := s0 :: w)
        rw [this, e, i4]
    · rw [c]
      have : (s0 :: w ++ [(l.1, l.2.1)]).getD (w ++ [(l.1, l.2.1)]).length (0, 0) = (l.1, l.2.1) := by
        have := getD_append_last (l := s0 :: w) (x := (l.1, l.2.1)) (d := ((0 : Nat), (0 : Int)))
        simpa using this
      rw [this, e]
def cyc1 (n : Nat) (es : List Edge) (i : Nat) : Walk := (i, 1) :: pget (walkPaths (lnk n es) (es.getD i (0, 0)).2) (es.getD i (0, 0)).1
def cycs (n : Nat) (es : List Edge) (k : Nat) : List Walk := ((List.range k).filter fun i => !decide (i ∈ forest n es)).map (cyc1 n es)
def cycles (n : Nat) (es : List Edge) : List Walk := cycs n es es.length
theorem cycs_succ {k : Nat} : cycs n es (k + 1) = cycs n es k ++ (if k ∈ forest n es then [] else [cyc1 n es k]) := by
  unfold cycs
  rw [List.range_succ, List.filter_append, List.map_append]
  congr 1
  by_cases h : k ∈ forest n es
  · simp [h]
  · simp [h]
theorem cyc1_ok (he : EdgesIn n es) {i : Nat} (hi : i < es.length) : WalkOk es (cyc1 n es i) :=
  (along_walk he (sk_path he (he i hi).2 (sk_head he hi)) (i, 1) ⟨hi, .inl rfl⟩ (by simp [sEnds])).1
theorem cycles_ok (he : EdgesIn n es) {w : Walk} (h : w ∈ cycles n es) : WalkOk es w := by
  obtain ⟨i, hi, rfl⟩ := List.mem_map.mp h
  exact cyc1_ok he (List.mem_range.mp (List.mem_filter.mp hi).1)
theorem cycs_len (k : Nat) : (cycs n es k).length ≤ k := by
  unfold cycs
  rw [List.length_map]
  refine Nat.le_trans (List.length_filter_le _ _) ?_
  simp
end
end Tt
set_option Elab.async false
set_option linter.all false
set_option maxRecDepth 100000
set_option maxHeartbeats 4000000
/-! solving: System.levels, bad_cycle, solved -/
namespace Tt
open PySem PySem.Spec PyProof.Rows L2 He
theorem PD.nth {M : Ms} {H : Hp} {kvs : List (Key × V)} {ps : Pths} (p : PD M H kvs ps) {j : Nat} {k : Key} {v : V} (h : kvs[j]? = some (k, v)) : j < ps.length ∧ k = Sum.inl ((ps.getD j (0, [])).1 : Int) ∧ Dd M H v (walkD (ps.getD j (0, [])).2) := by
  have hj : j < ps.length := by rw [← p.len]; exact (List.getElem?_eq_some_iff.mp h).1
  have e : ps.getD j (0, []) = ps[j] := by simp [List.getD, List.getElem?_eq_getElem hj]
  refine ⟨hj, ?_, ?_⟩
  · have h1 : (kvs.map (·.1))[j]? = some k := by rw [List.getElem?_map, h]; rfl
    rw [p.k, List.getElem?_map, List.getElem?_eq_getElem hj] at h1
    rw [e]
    exact (Option.some.inj h1).symm
  · have h1 : (kvs.map (·.2))[j]? = some v := by rw [List.getElem?_map, h]; rfl
    exact (p.v.nth (f := fun p : Nat × Walk => walkD p.2) h1 (0, [])).2
theorem replicate_snoc {α : Type} (n : Nat) (x : α) : List.replicate n x ++ [x] = List.replicate (n + 1) x := List.replicate_succ'.symm
theorem ixN_nat {n i : Nat} (h : i < n) : ixN n (i : Int) = some i := by
  unfold ixN
  rw [if_pos (by omega), if_pos (by omega)]
  simp
section
variable {P : Program} {w : World} {K : PySem.W.Frag} {mg : Str → Option Value} {base : Heap}
abbrev n_levels : List Str := ["self", "found", "group", "node", "path", "total", "index", "way"]
theorem sc_levels : FnScope n_levels ["self"] (defScope s_System_levels) := ⟨rfl, rfl, rfl, by decide +kernel, rfl, by decide +kernel, by decide +kernel⟩
def spLevels (K : PySem.W.Frag) : Sp := fun vs H Q _ => vs.length = 1 ∧ ∃ (M : Ms) (a : Addr) (m : Int) (rs : List Row) (ls : List (List Link)) (gs : List (List Nat)) (dx : Addr) (vr vl vg : V), vs = [.ref a] ∧ MOk M H ∧ SysAt K M H a m rs ls gs dx vr vl vg ∧ SysOk m rs ls gs ∧
  ∀ r H', Same H H' → H r = none → H' r = some (.lst ((levels ls rs m gs).map V.int)) → Q (.ref r) H'
theorem ok_levels (T : Tx K mg) : Gd P w K mg base 2 (ma K (ga K "System") "levels") ["self"] (spLevels K) := by
  have G1 : Gd P w K mg base 1 (ga K "walk_paths") ["links", "start"] spWalk := ok_walk T
  have G2 : Gd P w K mg base 1 (ga K "reduced_number") ["number", "modulus"] spReduced := ok_reduced T
  refine gd_of T.f_System_levels sc_levels (fun _ _ _ _ _ _ us hl => match us, hl with | [_], _ => rfl) (fun _ _ _ _ h => h.1) (fun cdv A outer s H vs Q E hr h => ?_)
  obtain ⟨_, M, a, m, rs, ls, gs, dx, vr, vl, vg, rfl, mok, S, O, k⟩ := h
  have nd := sc_levels.nd
  refine ⟨_, pss_cons (ps_setLc (i := 1) (own := [("node", 3)]) (g := gName 3) (tt := tYes) rfl nd rfl rfl (sw_true rfl rfl rfl (by decide +kernel)) (pi_list (pe_fld (pv 0) rfl)) (blkOk_by (N := n_levels) (sc := defScope s_System_levels) (by decide +kernel))
      (fun _ _ _ _ _ => pg_name (i := 3) nd rfl (Or.inl rfl)) (fun _ _ _ _ _ => pts_nil) (fun _ _ _ _ _ => pe_int))
    (pss_cons (ps_for PassesOwn.never rfl (pi_list (pe_fld (pv 0) rfl)) (pg_name (i := 2) nd rfl (Or.inl rfl))
      (pss_one (ps_for PassesOwn.never rfl (pi_items (pe_frz (pe_callG G1 hr rfl T.g_walk_paths (pa_cons (pe_fld (pv 0) rfl) (pa_cons (pe_ix ix_list (pv 2) pe_int (fun _ _ => rfl)) pa_nil)))))
        (pg_tup rfl (pgs_cons (pg_name (i := 3) nd rfl (Or.inl rfl)) (pgs_cons (pg_name (i := 4) nd rfl (Or.inl rfl)) pgs_nil)))
        (pss_cons (ps_set (i := 5) nd rfl (Or.inl rfl) (pe_callB (cr_sum rfl) (by rfl) T.n_sum (by decide +kernel) (pa_cons
          (pe_lc (own := [("index", 6), ("way", 7)]) (g := gTup K 2 (gCons (gName 6) (gCons (gName 7) gNil))) (tt := tYes) rfl nd (pi_list (pv 4)) (blkOk_by (N := n_levels) (sc := defScope s_System_levels) (by decide +kernel))
            (fun _ _ _ _ _ => pg_tup rfl (pgs_cons (pg_name (i := 6) nd rfl (Or.inl rfl)) (pgs_cons (pg_name (i := 7) nd rfl (Or.inl rfl)) pgs_nil))) (fun _ _ _ _ _ => pts_nil)
            (fun _ _ _ _ _ => pe_op op_mul (pv 7) (pe_ix (r := rIxT K) (ta := tOp (rIxL K) (tFld K (tVar 0) "rows") (tVar 6)) ix_tup (pe_ix (r := rIxL K) (ta := tFld K (tVar 0) "rows") ix_list (pe_fld (pv 0) rfl) (pv 6) (fun _ _ => rfl)) pe_int (fun _ _ => rfl)))) pa_nil)))
        (pss_one (ps_asg (pe_callG G2 hr rfl T.g_reduced_number (pa_cons (pe_op op_sub pe_int (pv 5)) (pa_cons (pe_fld (pv 0) rfl) pa_nil))) (pg_sub (pv 1) (pv 3) set_list)))))))
    (pss_one (ps_ret (pv 1)))), ?_⟩
  obtain ⟨la, lx, rfl, lm, hla, ll, lall, _⟩ := S.l.items (fun xs : List Link => .list (xs.map linkD)) ls
  obtain ⟨ga', gx, rfl, gm, hga, gl, gall, _⟩ := S.g.items natsD gs
  obtain ⟨ra, rx, rfl, rm, hra, rl, rall, _⟩ := S.r.items rowD rs
  refine ⟨_, rfl, a, _, dx, _, .ref la, rfl, S.at_, T.c_System, T.a_System_links, rfl, la, rfl, ⟨_, SqL.of hla⟩, fun F hF => lc_it (walk_list (xs := lx)) (fun i H' => Same H H' ∧ H' F = some (.lst ((List.replicate i (0 : Int)).map V.int))) ⟨Same.new hF, upd_same⟩ (fun i H' _ h => SqL.of (h.1 _ _ hla)) ?_ ?_⟩
  · rintro i y H2 H3 hi ⟨s2, h2⟩ ⟨rfl, hy⟩
    refine ⟨rfl, _, h2, by have := O.n; simp; show _ < 16777216; omega, Same.mut s2 hF, ?_⟩
    rw [upd_same, ints_snoc, replicate_snoc]
  rintro H1 ⟨s1, hF1⟩
  refine ⟨_, rfl, a, _, dx, _, .ref ga', rfl, s1 _ _ S.at_, T.c_System, T.a_System_groups, rfl, ga', rfl, ⟨_, SqL.of (s1 _ _ hga)⟩, for_it (walk_list (xs := gx)) (fun i σ H' => ∃ (x2 x3 x4 x5 : Option V), σ = [some (.ref a), some (.ref F), x2, x3, x4, x5, none, none] ∧
    Same H H' ∧ H' F = some (.lst (((gs.take i).foldl (lvG ls rs m) (List.replicate ls.length 0)).map V.int))) ⟨none, none, none, none, rfl, s1, by rw [ll] at hF1; exact hF1⟩ (fun i σ H' _ ⟨_, _, _, _, _, s, _⟩ => SqL.of (s _ _ hga)) ?_ ?_⟩
  · rintro i x σ H2 H3 hi ⟨x2, x3, x4, x5, rfl, s2, hF2⟩ ⟨rfl, hx⟩
    obtain ⟨hi', dg⟩ := gall.nth hx []
    obtain ⟨g, rfl, gm', hg⟩ := dg.nats
    have mem : gs.getD i [] ∈ gs := by
      have : gs.getD i [] = gs[i] := by simp [List.getD, List.getElem?_eq_getElem hi']
      rw [this]
      exact List.getElem_mem hi'
    obtain ⟨g0, hg0, g0l⟩ := O.c.ne _ mem
    rw [take_next gs i [] hi', List.foldl_append]
    have fl : ((gs.take i).foldl (lvG ls rs m) (List.replicate ls.length 0)).length = ls.length := by rw [foldl_lvG_len, List.length_replicate]
    generalize (gs.take i).foldl (lvG ls rs m) (List.replicate ls.length 0) = f at hF2 fl ⊢
    generalize gs.getD i [] = gg at mem dg hg hg0 ⊢
    obtain ⟨rest, rfl⟩ : ∃ rest, gg = g0 :: rest := by
      cases gg with
      | nil => cases hg0
      | cons y r => exact ⟨r, by rw [Option.some.inj hg0]⟩
    have lkl := walkPaths_inv O.li g0l
    refine ⟨_, rfl, a, _, dx, _, .ref la, rfl, s2 _ _ S.at_, T.c_System, T.a_System_links, rfl, _, rfl, g, _, 0, .int (g0 : Int), rfl, rfl, SqL.of (s2 _ _ hg), atI_nat (j := 0) rfl, ?_⟩
    have mok2 := mok.same s2
    refine ⟨rfl, also M F, _, g0, ls, rfl, mok2.also hF2, (S.l.also hF).same s2, O.li, g0l, O.n, fun p H4 kvs s4 np hp pd => ?_⟩
    refine ⟨p, _, rfl, hp, trivial, fun od => ?_⟩
    have s5 : Same H3 (upd H4 p (.frz od (.dK kvs))) := Same.mut s4 np
    have pd5 : PD (also (also M F) p) (upd H4 p (.frz od (.dK kvs))) kvs (walkPaths ls g0) := pd.upd (.inr rfl)
    have hp5 : upd H4 p (.frz od (.dK kvs)) p = some (.frz od (.dK kvs)) := upd_same
    generalize upd H4 p (.frz od (.dK kvs)) = H5 at s5 pd5 hp5 ⊢
    have s25 := Same.trans' s2 s5
    have hF5 := s5 _ _ hF2
    have hFp : F ≠ p := fun z => by rw [z, np] at hF2; cases hF2
    -- what is kept through the inner loop: everything but F
    refine ⟨p, od, kvs, rfl, hp5, for_it walk_items (fun j σ H' => ∃ (x3 x4 x5 : Option V), σ = [some (.ref a), some (.ref F), some (.ref g), x3, x4, x5, none, none] ∧ Sx F H5 H' ∧
      H' F = some (.lst ((((walkPaths ls g0).take j).foldl (lvP rs m) f).map V.int))) ⟨_, _, _, rfl, Sx.refl ⟨_, hF5⟩, hF5⟩ (fun j σ H' _ ⟨_, _, _, _, kp, _⟩ => kp.1 _ _ hFp.symm hp5) ?_ ?_⟩
    · rintro j y σ H6 H7 hj ⟨y3, y4, y5, rfl, kp, hF6⟩ ⟨T0, z1, z2, rfl, hT, rfl, e1, e2⟩
      obtain ⟨kv, hkv⟩ : ∃ kv, kvs[j]? = some kv := ⟨kvs[j], by simp [hj]⟩
      have e1 : kvs[j]?.map (fun kv => kV kv.1) = some z1 := e1
      have e2 : kvs[j]?.map Prod.snd = some z2 := e2
      rw [hkv] at e1 e2
      obtain rfl := Option.some.inj e1
      obtain rfl := Option.some.inj e2
      obtain ⟨hj', ek, dv⟩ := pd5.nth (k := kv.1) (v := kv.2) hkv
      have jmem : (walkPaths ls g0).getD j (0, []) ∈ walkPaths ls g0 := by
        have : (walkPaths ls g0).getD j (0, []) = (walkPaths ls g0)[j] := by simp [List.getD, List.getElem?_eq_getElem hj']
        rw [this]
        exact List.getElem_mem hj'
      have sok := along_ok O.lk (lkl.al _ jmem)
      have nlt := lkl.lt _ jmem
      rw [take_next _ j (0, []) hj', List.foldl_append]
      have fl' : ((walkPaths ls g0).take j |>.foldl (lvP rs m) f).length = ls.length := by rw [foldl_lvP_len, fl]
      generalize ((walkPaths ls g0).take j).foldl (lvP rs m) f = f' at hF6 fl' ⊢
      generalize (walkPaths ls g0).getD j (0, []) = q at jmem sok nlt ek dv ⊢
      obtain ⟨qn, qw⟩ := q
      obtain ⟨kk, vv⟩ := kv
      have ek : kk = Sum.inl (qn : Int) := ek
      subst ek
      have sH : ∀ b o, H b = some o → upd H6 T0 (.tup [kV (Sum.inl (qn : Int)), vv]) b = some o := fun b o e => Same.new hT _ _ (kp.1 b o (fun z => by rw [z, hF] at e; cases e) (s25 _ _ e))
      have dv7 := (dv.sx kp (.inl (.inr rfl))).same (Same.new (o := .tup [kV (Sum.inl (qn : Int)), vv]) hT)
      have hF7 := Same.new (o := .tup [kV (Sum.inl (qn : Int)), vv]) hT _ _ hF6
      have kp7 := kp.same (Same.new (o := .tup [kV (Sum.inl (qn : Int)), vv]) hT)
      refine ⟨T0, _, rfl, SqT.of upd_same, rfl, _, _, rfl, _, _, rfl, rfl, ?_⟩
      show tSeq _ _ _ _ (upd H6 T0 (.tup [kV (Sum.inl (qn : Int)), vv]))
      generalize upd H6 T0 (.tup [kV (Sum.inl (qn : Int)), vv]) = H7 at sH dv7 hF7 kp7 ⊢
      obtain ⟨pa, pws, epa, pm, hpa, pl, pall, _⟩ := dv7.items stepD qw
      have epa : vv = .ref pa := epa
      subst epa
      have pall' : DdAll (also (also M F) p) H7 pws (qw.map stepD) := pall
      refine ⟨_, rfl, pa, rfl, ⟨_, SqL.of hpa⟩, fun D hD => lc_it (walk_list (xs := pws)) (fun q H' => Same H7 H' ∧ H' D = some (.lst (((qw.take q).map fun s => s.2 * (rs.getD s.1 (0, 0, 0)).2.2).map V.int))) ⟨Same.new hD, upd_same⟩ (fun i H' _ h => SqL.of (h.1 _ _ hpa)) ?_ ?_⟩
      · rintro q x H8 H9 hq ⟨s8, hD8⟩ ⟨rfl, hx⟩
        obtain ⟨hq', dx'⟩ := pall'.nth hx (0, 0)
        obtain ⟨t, rfl, ht⟩ := Dd.stp _ dx'
        have qmem : qw.getD q (0, 0) ∈ qw := by
          have : qw.getD q (0, 0) = qw[q] := by simp [List.getD, List.getElem?_eq_getElem hq']
          rw [this]
          exact List.getElem_mem hq'
        obtain ⟨il, iw⟩ := sok _ qmem
        obtain ⟨ry, hry, dry⟩ := rall.nth' il (0, 0, 0)
        obtain ⟨rt, rfl, hrt⟩ := Dd.row _ dry
        have e9 : ((qw.take (q + 1)).map fun s => s.2 * (rs.getD s.1 (0, 0, 0)).2.2) = ((qw.take q).map fun s => s.2 * (rs.getD s.1 (0, 0, 0)).2.2) ++ [(qw.getD q (0, 0)).2 * (rs.getD (qw.getD q (0, 0)).1 (0, 0, 0)).2.2] := by
          rw [take_next qw q (0, 0) hq', List.map_append]; rfl
        refine ⟨t, _, rfl, SqT.of (s8 _ _ ht), rfl, _, _, rfl, _, _, rfl, ⟨rfl, rfl, ?_⟩⟩
        have at9 := s8 _ _ (sH _ _ S.at_)
        have ra9 := s8 _ _ (sH _ _ hra)
        have rt9 := s8 _ _ (sH _ _ hrt)
        refine ⟨_, rfl, _, rfl, a, _, dx, _, .ref ra, rfl, at9, T.c_System, T.a_System_rows, rfl, _, rfl, ra, _, _, .ref rt, rfl, rfl, SqL.of ra9, atI_nat hry, ?_⟩
        refine ⟨rt, _, _, .int (rs.getD (qw.getD q (0, 0)).1 (0, 0, 0)).2.2, rfl, rfl, SqT.of rt9, rfl, _, _, rfl, rfl, .inl (by rcases iw with e | e <;> rw [e] <;> exact ⟨by decide, by decide⟩), ?_⟩
        refine ⟨_, hD8, ?_, Same.mut s8 hD, ?_⟩
        · have := bfs_len O.li g0l ls.length _ jmem
          have := lkl.few
          have h3 : (walkPaths ls g0).length = (bfs ls g0 ls.length).1.length := rfl
          have := O.n
          simp at *
          show _ < 16777216
          omega
        · rw [upd_same, ints_snoc, e9]
      · rintro H8 ⟨s8, hD8⟩
        rw [pl, List.take_of_length_le (Nat.le_refl _)] at hD8
        refine ⟨D, _, rfl, SqL.of hD8, ?_⟩
        refine ⟨_, rfl, _, _, rfl, rfl, _, rfl, a, _, dx, _, .int m, rfl, s8 _ _ (sH _ _ S.at_), T.c_System, T.a_System_own_modulus, rfl, rfl, _, m, rfl, ?_⟩
        have hF8 := s8 _ _ hF7
        refine ⟨_, rfl, _, rfl, F, _, _, qn, rfl, rfl, hF8, ixN_nat (by rw [List.length_map, fl']; exact nlt), ?_⟩
        refine ⟨_, _, _, rfl, (kp7.same s8).upd, ?_⟩
        rw [upd_same]
        show some (HO.lst ((f'.map V.int).set qn (.int (red (0 - wsum rs qw) m)))) = _
        rw [← List.map_set]
        rfl
    · rintro σ H6 ⟨y3, y4, y5, rfl, kp, hF6⟩
      have : (walkPaths ls g0).take kvs.length = walkPaths ls g0 := List.take_of_length_le (by rw [pd5.len]; exact Nat.le_refl _)
      rw [this] at hF6
      refine ⟨_, _, _, _, rfl, ?_, ?_⟩
      · intro b o e
        exact kp.1 b o (fun z => by rw [z, hF] at e; cases e) (s25 _ _ e)
      · exact hF6
  · rintro σ H2 ⟨x2, x3, x4, x5, rfl, s2, hF2⟩
    rw [gl, List.take_of_length_le (Nat.le_refl _)] at hF2
    exact ⟨_, rfl, k F _ s2 hF hF2⟩
end
end Tt
set_option Elab.async false
set_option linter.all false
set_option maxRecDepth 100000
set_option maxHeartbeats 4000000
/-! solving: System.bad_cycle, solved -/
namespace Tt
open PySem PySem.Spec PyProof.Rows L2 He
section
variable {P : Program} {w : World} {K : PySem.W.Frag} {mg : Str → Option Value} {base : Heap}
def NoBad (m : Int) (rs : List Row) (ls : List (List Link)) (gs : List (List Nat)) : Prop := ∀ i, i < rs.length → red ((levels ls rs m gs).getD (rs.getD i (0, 0, 0)).1 0 - (levels ls rs m gs).getD (rs.getD i (0, 0, 0)).2.1 0 - (rs.getD i (0, 0, 0)).2.2) m = 0
theorem levels_len {m : Int} {rs : List Row} {ls : List (List Link)} {gs : List (List Nat)} : (levels ls rs m gs).length = ls.length := by
  unfold levels
  rw [foldl_lvG_len, List.length_replicate]
abbrev n_bad : List Str := ["self", "found", "index", "tail", "head", "difference"]
theorem sc_bad : FnScope n_bad ["self"] (defScope s_System_bad_cycle) := ⟨rfl, rfl, rfl, by decide +kernel, rfl, by decide +kernel, by decide +kernel⟩
def spBad (K : PySem.W.Frag) : Sp := fun vs H Q _ => vs.length = 1 ∧ ∃ (M : Ms) (a : Addr) (m : Int) (rs : List Row) (ls : List (List Link)) (gs : List (List Nat)) (dx : Addr) (vr vl vg : V), vs = [.ref a] ∧ MOk M H ∧ SysAt K M H a m rs ls gs dx vr vl vg ∧ SysOk m rs ls gs ∧ NoBad m rs ls gs ∧
  ∀ H', Same H H' → Q .non H'
theorem ok_bad (T : Tx K mg) : Gd P w K mg base 3 (ma K (ga K "System") "bad_cycle") ["self"] (spBad K) := by
  have G1 : Gd P w K mg base 2 (ma K (ga K "System") "levels") ["self"] (spLevels K) := ok_levels T
  have G2 : Gd P w K mg base 2 (ga K "reduced_number") ["number", "modulus"] spReduced := (ok_reduced T).mono (by decide)
  refine gd_of T.f_System_bad_cycle sc_bad (fun _ _ _ _ _ _ us hl => match us, hl with | [_], _ => rfl) (fun _ _ _ _ h => h.1) (fun cdv A outer s H vs Q E hr h => ?_)
  obtain ⟨_, M, a, m, rs, ls, gs, dx, vr, vl, vg, rfl, mok, S, O, nb, k⟩ := h
  have nd := sc_bad.nd
  refine ⟨_, pss_cons (ps_set (i := 1) nd rfl (Or.inl rfl) (pe_methG0 (pv 0) T.c_System T.m_System_levels G1 hr))
    (pss_cons (ps_for PassesOwn.never rfl (pi_enum (by rfl) T.n_enumerate (pa_cons (pe_fld (pv 0) rfl) pa_nil))
      (pg_tup rfl (pgs_cons (pg_name (i := 2) nd rfl (Or.inl rfl)) (pgs_cons (pg_tup rfl (pgs_cons (pg_name (i := 3) nd rfl (Or.inl rfl)) (pgs_cons (pg_name (i := 4) nd rfl (Or.inl rfl)) (pgs_cons (pg_name (i := 5) nd rfl (Or.inl rfl)) pgs_nil)))) pgs_nil)))
      (pss_one (ps_if (pt_cmpR op_ne (pe_callG G2 hr rfl T.g_reduced_number (pa_cons (pe_op op_sub (pe_op op_sub (pe_ix ix_list (pv 1) (pv 3) (fun _ _ => rfl)) (pe_ix ix_list (pv 1) (pv 4) (fun _ _ => rfl))) (pv 5)) (pa_cons (pe_fld (pv 0) rfl) pa_nil))) pe_int (nomark _)) pss_never pss_nil)))
    (pss_one (ps_ret pe_non))), ?_⟩
  obtain ⟨ra, rx, rfl, rm, hra, rl, rall, _⟩ := S.r.items rowD rs
  refine ⟨_, rfl, a, dx, _, rfl, S.at_, rfl, rfl, M, a, m, rs, ls, gs, dx, _, _, _, rfl, mok, S, O, fun F H1 s1 hF hF1 => ?_⟩
  refine ⟨_, rfl, a, _, dx, _, .ref ra, rfl, s1 _ _ S.at_, T.c_System, T.a_System_rows, rfl, ra, rx, rfl, SqL.of (s1 _ _ hra), for_it (walk_enum (xs := rx)) (fun i σ H' => ∃ (x2 x3 x4 x5 : Option V), σ = [some (.ref a), some (.ref F), x2, x3, x4, x5] ∧ Same H1 H') ⟨_, _, _, _, rfl, Same.rfl'⟩ (fun i σ H' _ ⟨_, _, _, _, _, s⟩ => SqL.of (s _ _ (s1 _ _ hra))) ?_ ?_⟩
  · rintro i x σ H2 H3 hi ⟨x2, x3, x4, x5, rfl, s2⟩ ⟨T0, z1, z2, rfl, hT, rfl, e1, e2⟩
    obtain rfl := Option.some.inj e1
    obtain ⟨hi', dy⟩ := rall.nth e2 (0, 0, 0)
    obtain ⟨t, rfl, ht⟩ := Dd.row _ dy
    have s3 := Same.new' (o := .tup [.int (i : Nat), .ref t]) s2 hT
    obtain ⟨l1, l2⟩ := O.ri i hi'
    have nb' := nb i hi'
    refine ⟨T0, _, rfl, SqT.of upd_same, rfl, _, _, rfl, _, _, rfl, ⟨t, _, rfl, SqT.of (s3 _ _ (s1 _ _ ht)), rfl, _, _, rfl, _, _, rfl, _, _, rfl, rfl, rfl, ?_⟩⟩
    have hF3 := s3 _ _ hF1
    refine ⟨_, rfl, _, rfl, F, _, _, _, rfl, rfl, SqL.of hF3, ints_at (by rw [levels_len]; exact l1), ?_⟩
    refine ⟨_, rfl, _, rfl, F, _, _, _, rfl, rfl, SqL.of hF3, ints_at (by rw [levels_len]; exact l2), _, _, rfl, rfl, _, rfl, _, _, rfl, rfl, ?_⟩
    refine ⟨_, rfl, a, _, dx, _, .int m, rfl, s3 _ _ (s1 _ _ S.at_), T.c_System, T.a_System_own_modulus, rfl, rfl, _, m, rfl, rfl, _, rfl, iteN (by rw [nb']; rfl) ?_⟩
    exact ⟨_, _, _, _, rfl, s3⟩
  · rintro σ H2 ⟨x2, x3, x4, x5, rfl, s2⟩
    exact k _ (Same.trans' s1 s2)
def tNoT : TT := fun _ _ _ => False
abbrev n_solved : List Str := ["self", "fixed", "walk", "found", "group", "held", "node", "constant"]
theorem sc_solved : FnScope n_solved ["self", "fixed"] (defScope s_System_solved) := ⟨rfl, rfl, rfl, by decide +kernel, rfl, by decide +kernel, by decide +kernel⟩
def spSolved (K : PySem.W.Frag) : Sp := fun vs H Q _ => vs.length = 2 ∧ ∃ (M : Ms) (a fx : Addr) (m : Int) (rs : List Row) (ls : List (List Link)) (gs : List (List Nat)) (dx : Addr) (vr vl vg : V), vs = [.ref a, .ref fx] ∧ H fx = some (.lst []) ∧ MOk M H ∧ SysAt K M H a m rs ls gs dx vr vl vg ∧ SysOk m rs ls gs ∧ NoBad m rs ls gs ∧
  ∀ t y H', Same H H' → H' t = some (.tup [.str "potential", y]) → Q (.ref t) H'
theorem ok_solved (T : Tx K mg) : Gd P w K mg base 4 (ma K (ga K "System") "solved") ["self", "fixed"] (spSolved K) := by
  have G1 : Gd P w K mg base 3 (ma K (ga K "System") "levels") ["self"] (spLevels K) := (ok_levels T).mono (by decide)
  have G2 : Gd P w K mg base 3 (ma K (ga K "System") "bad_cycle") ["self"] (spBad K) := ok_bad T
  refine gd_of T.f_System_solved sc_solved (fun _ _ _ _ _ _ us hl => match us, hl with | [_, _], _ => rfl) (fun _ _ _ _ h => h.1) (fun cdv A outer s H vs Q E hr h => ?_)
  obtain ⟨_, M, a, fx, m, rs, ls, gs, dx, vr, vl, vg, rfl, hfx, mok, S, O, nb, k⟩ := h
  have nd := sc_solved.nd
  refine ⟨_, pss_cons (ps_set (i := 2) nd rfl (Or.inl rfl) (pe_methG0 (pv 0) T.c_System T.m_System_bad_cycle G2 hr))
    (pss_cons (ps_if (pt_cmpR op_notN (pv 2) pe_non (nomark _)) pss_never pss_nil)
    (pss_cons (ps_set (i := 3) nd rfl (Or.inl rfl) (pe_methG0 (pv 0) T.c_System T.m_System_levels G1 hr))
    (pss_cons (ps_for PassesOwn.never rfl (pi_list (pe_fld (pv 0) rfl)) (pg_name (i := 4) nd rfl (Or.inr rfl))
      (pss_cons (ps_setLc (i := 5) (own := [("node", 6)]) (g := gName 6) (tt := tNoT) rfl nd rfl rfl (sw_true rfl rfl rfl (by decide +kernel)) (pi_list (pe_callB cr_sortedI (by rfl) T.n_sorted (by decide +kernel) (pa_cons (pv 1) pa_nil))) (blkOk_by (N := n_solved) (sc := defScope s_System_solved) (by decide +kernel))
        (fun _ _ _ _ _ => pg_name (i := 6) nd rfl (Or.inl rfl)) (fun _ _ _ _ _ => ⟨fun _ _ _ _ _ _ h => h.elim⟩) (fun _ _ _ _ _ => pe_no))
      (pss_cons (ps_for PassesOwn.never rfl (pi_list (pv 5)) (pg_name (i := 6) nd rfl (Or.inl rfl)) pss_never)
      (pss_one (ps_if (pt_truth (pv 5) (fun _ => rfl)) pss_never pss_nil)))))
    (pss_one (ps_ret (pe_tup (pa_cons pe_str (pa_cons (pv 3) pa_nil)))))))), ?_⟩
  obtain ⟨ga', gx, rfl, gm, hga, gl, gall, _⟩ := S.g.items natsD gs
  refine ⟨_, rfl, a, dx, _, rfl, S.at_, rfl, rfl, M, a, m, rs, ls, gs, dx, _, _, _, rfl, mok, S, O, nb, fun H1 s1 => ?_⟩
  refine ⟨_, rfl, rfl, _, rfl, iteF ?_⟩
  refine ⟨_, rfl, a, dx, _, rfl, s1 _ _ S.at_, rfl, rfl, M, a, m, rs, ls, gs, dx, _, _, _, rfl, mok.same s1, S.same s1, O, fun F H2 s2 hF hF2 => ?_⟩
  have s12 := Same.trans' s1 s2
  refine ⟨_, rfl, a, _, dx, _, .ref ga', rfl, s12 _ _ S.at_, T.c_System, T.a_System_groups, rfl, ga', rfl, ⟨_, SqL.of (s12 _ _ hga)⟩, for_it (walk_list (xs := gx)) (fun i σ H' => ∃ (x4 x5 x6 : Option V), σ = [some (.ref a), some (.ref fx), some .non, some (.ref F), x4, x5, x6, none] ∧ Same H2 H') ⟨_, _, _, rfl, Same.rfl'⟩ (fun i σ H' _ ⟨_, _, _, _, s⟩ => SqL.of (s _ _ (s12 _ _ hga))) ?_ ?_⟩
  · rintro i x σ H3 H4 hi ⟨x4, x5, x6, rfl, s3⟩ ⟨rfl, hx⟩
    refine ⟨_, rfl, fx, [], rfl, SqL.of (s3 _ _ (s12 _ _ hfx)), fun ns' p pp _ hp => ?_⟩
    obtain rfl : ns' = [] := List.length_eq_zero_iff.mp (by rw [pp.length_eq]; rfl)
    have s5 := Same.new' (o := .lst []) s3 hp
    have hp5 : upd H4 p (.lst (([] : List Int).map V.int)) p = some (.lst []) := upd_same
    refine ⟨p, rfl, ⟨_, SqL.of hp5⟩, fun D hD => lc_it (walk_list (K := K) (xs := [])) (fun i H' => H' = upd (upd H4 p (.lst (([] : List Int).map V.int))) D (.lst [])) rfl (fun i H' _ h => by rw [h]; exact SqL.of (by rw [upd_ne (ne_of_none hp5 hD)]; exact hp5)) (fun i x H _ hi => absurd hi (Nat.not_lt_zero _)) ?_⟩
    rintro H5 rfl
    have s6 := Same.new' (o := .lst []) s5 hD
    have hD6 : upd (upd H4 p (.lst (([] : List Int).map V.int))) D (.lst []) D = some (.lst []) := upd_same
    refine ⟨_, rfl, D, rfl, ⟨_, SqL.of hD6⟩, for_it (walk_list (K := K) (xs := [])) (fun i σ H' => σ = [some (.ref a), some (.ref fx), some .non, some (.ref F), some x, some (.ref D), x6, none] ∧ H' = upd (upd H4 p (.lst (([] : List Int).map V.int))) D (.lst [])) ⟨rfl, rfl⟩ (fun i σ H' _ h => by rw [h.2]; exact SqL.of hD6) (fun i x σ H _ hi => absurd hi (Nat.not_lt_zero _)) ?_⟩
    rintro σ H5 ⟨rfl, rfl⟩
    refine ⟨_, rfl, _, .inl ⟨_, SqL.of hD6, rfl⟩, iteF ?_⟩
    exact ⟨_, _, _, rfl, s6⟩
  · rintro σ H3 ⟨x4, x5, x6, rfl, s3⟩
    refine ⟨_, rfl, by show 2 ≤ sizeLine; decide, fun t ht => ?_⟩
    exact k t _ _ (Same.new' (Same.trans' s12 s3) ht) upd_same
end
end Tt
set_option Elab.async false
set_option linter.all false
set_option maxRecDepth 100000
set_option maxHeartbeats 4000000
/-! webs: Web and its small methods -/
namespace Tt
open PySem PySem.Spec PyProof.Rows L2 He
/-! ### shapes -/
def Shp (k : Nat) (d : PyData) : Prop := d.canLay0 = true ∧ d.depth ≤ k
theorem Shp.int {k : Nat} (i : Int) : Shp k (.int i) := ⟨rfl, Nat.zero_le _⟩
theorem Shp.mono {j k : Nat} {d : PyData} (h : Shp j d) (e : j ≤ k) : Shp k d := ⟨h.1, Nat.le_trans h.2 e⟩
theorem shp_all {k : Nat} : ∀ {ds : List PyData}, (∀ d, d ∈ ds → Shp k d) → PyData.canLayAll0 ds = true ∧ PyData.depthAll ds ≤ k
  | [], _ => ⟨rfl, Nat.zero_le _⟩
  | d :: ds, h => by
    obtain ⟨a, b⟩ := h d (List.mem_cons_self ..)
    obtain ⟨c, e⟩ := shp_all (ds := ds) fun x hx => h x (List.mem_cons_of_mem _ hx)
    exact ⟨by show (PyData.canLay0 d && PyData.canLayAll0 ds) = true; rw [a, c]; rfl, Nat.max_le.mpr ⟨b, e⟩⟩
theorem Shp.list {k : Nat} {ds : List PyData} (h : ∀ d, d ∈ ds → Shp k d) : Shp (k + 1) (.list ds) := by
  obtain ⟨a, b⟩ := shp_all h
  exact ⟨a, Nat.succ_le_succ b⟩
theorem Shp.tup {k : Nat} {ds : List PyData} (h : ∀ d, d ∈ ds → Shp k d) : Shp (k + 1) (.tuple ds) := by
  obtain ⟨a, b⟩ := shp_all h
  exact ⟨a, Nat.succ_le_succ b⟩
theorem Shp.shaped {k : Nat} {d : PyData} (h : Shp k d) (e : k ≤ 64) : SeqAt.shaped d = true := by
  unfold SeqAt.shaped
  rw [h.1, Bool.true_and]
  exact decide_eq_true (Nat.le_trans h.2 e)
theorem shp_stp (s : Stp) : Shp 1 (stepD s) := Shp.tup fun d hd => by
  simp only [List.mem_cons, List.not_mem_nil, or_false] at hd
  rcases hd with rfl | rfl <;> exact Shp.int _
theorem shp_walk (w : Walk) : Shp 2 (walkD w) := Shp.list fun d hd => by
  obtain ⟨s, _, rfl⟩ := List.mem_map.mp hd
  exact shp_stp s
theorem shp_walks (w : List Walk) : Shp 3 (walksD w) := Shp.list fun d hd => by
  obtain ⟨s, _, rfl⟩ := List.mem_map.mp hd
  exact shp_walk s
theorem shp_ints (w : List Int) : Shp 1 (intsD w) := Shp.list fun d hd => by
  obtain ⟨s, _, rfl⟩ := List.mem_map.mp hd
  exact Shp.int s
/-! ### calls with keywords, with defaults -/
structure GdK (P : Program) (w : World) (K : PySem.W.Frag) (mg : Str → Option Value) (base : Heap) (k : Nat) (f : Addr) (ps : List Str) (sp : Sp) (n : Nat) (ks : List Str) (gV : List V → List V → List V) : Prop where
  ex : ∃ fd g, FnOk P w K mg base CX0 k f fd ps sp ∧ KBn K fd ps n ks g gV
  kp : PySem.W.keepIn K (.ref f) = true
structure GdD (P : Program) (w : World) (K : PySem.W.Frag) (mg : Str → Option Value) (base : Heap) (k : Nat) (f : Addr) (ps : List Str) (sp : Sp) (dvs : List V) : Prop where
  ex : ∃ fd ds, FnOk P w K mg base CX0 k f fd ps sp ∧ Vals dvs ds ∧ Binds K fd ps ds
  kp : PySem.W.keepIn K (.ref f) = true
section
variable {P : Program} {w : World} {K : PySem.W.Frag} {mg : Str → Option Value} {base : Heap}
theorem GdK.mono {j k n : Nat} {f : Addr} {ps ks : List Str} {sp : Sp} {gV : List V → List V → List V} (g : GdK P w K mg base j f ps sp n ks gV) (h : j ≤ k) : GdK P w K mg base k f ps sp n ks gV := by
  obtain ⟨⟨fd, gg, G, b⟩, kp⟩ := g
  exact ⟨⟨fd, gg, G.mono h, b⟩, kp⟩
theorem GdD.mono {j k : Nat} {f : Addr} {ps : List Str} {sp : Sp} {dvs : List V} (g : GdD P w K mg base j f ps sp dvs) (h : j ≤ k) : GdD P w K mg base k f ps sp dvs := by
  obtain ⟨⟨fd, ds, G, v, b⟩, kp⟩ := g
  exact ⟨⟨fd, ds, G.mono h, v, b⟩, kp⟩
/-- the promise of a def, its defaults apart -/
theorem fnok_of {x qual : Str} {st : Stmt} {f : Addr} {N ps : List Str} {k : Nat} {sp : Sp} {dvs : List V} {kws : List (Str × V)} {fd : FuncData} (F : FunD K x qual (defArgs st) (defBody st) (defScope st) dvs kws f fd) (S : FnScope N ps (defScope st))
    (len : ∀ vs H Q E, sp vs H Q E → vs.length = ps.length)
    (hbody : ∀ (cdv : Value) (A : Around) (outer : List Env) (s : Shared) (H : Hp) (vs : List V) (Q : VK) (E : XK), Room k (A.deeper (envOfC qual (defScope st) s.heap.objs.size f cdv)) → sp vs H Q E →
      ∃ t, PSs (cxOf CX0 P w K mg base N qual (defScope st) f cdv A outer s H E).nox (defBody st) t ∧ t { nx := fun _ H' => Q .non H', rt := Q } (start N vs) H) : FnOk P w K mg base CX0 (k + 1) f fd ps sp :=
  F.ok S len fun cdv A outer s H vs Q E hr h => by
    obtain ⟨t, h1, h2⟩ := hbody cdv A outer s H vs Q E hr h
    exact ⟨t, h1.nox, h2⟩
end
section
variable {X : Cx} {k n : Nat} {f C : Addr} {ps ks : List Str} {sp : Sp} {x m : Str} {p pos apos : Pos} {e o : Expr} {es : List Expr} {kws : List Keyword} {t tk : TA} {gV : List V → List V → List V} {dvs : List V}
theorem pe_makeKG (M : Mk X.K C f) (g : GdK X.prog X.w X.K X.mg X.base k f ps sp (n + 1) ks gV) (hr : Room (k + 1) X.A) (hg : Gl X x) (hm : X.mg x = some (.ref C)) (ha : PA X (e :: es) t) (hkw : PK X kws tk)
    (hall : (backToKw pos (keywordEach kws X.env)).all (·.1.isSome) = true := by rfl) (hks : (backToKw pos (keywordEach kws X.env)).filterMap (·.1) = ks := by rfl) (hdb : (x == ("__debug__" : Str)) = false := by decide)
    (he : starEach (e :: es) X.env = (false, eval e X.env) :: starEach es X.env := by rfl) (hpl : ((backTo pos (starEach (e :: es) X.env)).any (·.1) || (backToKw pos (keywordEach kws X.env)).any (·.1.isNone)) = false := by rfl) :
    PE X (.Call (.Name x p) (e :: es) kws pos) (tMakeK C n ks.length sp gV E0 t tk) := by
  obtain ⟨⟨fd, gg, G, b⟩, kp⟩ := g
  exact pe_makeK M G hr hg hm b pass0 ha hkw hall hks hdb he hpl
theorem pe_callKG (g : GdK X.prog X.w X.K X.mg X.base k f ps sp n ks gV) (hr : Room k X.A) (hg : Gl X x) (hm : X.mg x = some (.ref f)) (ha : PA X (e :: es) t) (hkw : PK X kws tk)
    (hall : (backToKw pos (keywordEach kws X.env)).all (·.1.isSome) = true := by rfl) (hks : (backToKw pos (keywordEach kws X.env)).filterMap (·.1) = ks := by rfl) (hdb : (x == ("__debug__" : Str)) = false := by decide)
    (he : starEach (e :: es) X.env = (false, eval e X.env) :: starEach es X.env := by rfl) (hpl : ((backTo pos (starEach (e :: es) X.env)).any (·.1) || (backToKw pos (keywordEach kws X.env)).any (·.1.isNone)) = false := by rfl) :
    PE X (.Call (.Name x p) (e :: es) kws pos) (tCallN n ks.length sp gV E0 t tk) := by
  obtain ⟨⟨fd, gg, G, b⟩, kp⟩ := g
  exact pe_callN G hr hg hm kp b pass0 ha hkw hall hks hdb he hpl
theorem pe_callDG (g : GdD X.prog X.w X.K X.mg X.base k f ps sp dvs) (hr : Room k X.A) (hg : Gl X x) (hm : X.mg x = some (.ref f)) (ha : PA X (e :: es) t)
    (hdb : (x == ("__debug__" : Str)) = false := by decide) (he : starEach (e :: es) X.env = (false, eval e X.env) :: starEach es X.env := by rfl) (hpl : (backTo pos (starEach es X.env)).any (·.1) = false := by rfl) :
    PE X (.Call (.Name x p) (e :: es) [] pos) (tCall sp dvs E0 t) := by
  obtain ⟨⟨fd, ds, G, v, b⟩, kp⟩ := g
  exact pe_call G hr hg hm kp b v pass0 ha hdb he hpl
theorem pe_makeDG (M : Mk X.K C f) (g : GdD X.prog X.w X.K X.mg X.base k f ps sp dvs) (hr : Room (k + 1) X.A) (hg : Gl X x) (hm : X.mg x = some (.ref C))
    (ha : PA X (e :: es) t) (hdb : (x == ("__debug__" : Str)) = false := by decide) (he : starEach (e :: es) X.env = (false, eval e X.env) :: starEach es X.env := by rfl) (hpl : (backTo pos (starEach es X.env)).any (·.1) = false := by rfl) :
    PE X (.Call (.Name x p) (e :: es) [] pos) (tMake C sp dvs E0 t) := by
  obtain ⟨⟨fd, ds, G, v, b⟩, kp⟩ := g
  exact pe_make M G hr hg hm b v pass0 ha hdb he hpl
end
/-! ### the web -/
structure WebOk (n : Nat) (es : List Edge) (m : Int) : Prop where
  n1 : 1 ≤ n
  n30 : n ≤ 30
  e : EdgesIn n es
  l : es.length ≤ 60
  m0 : 0 ≤ m
  m60 : m ≤ 60
  m1 : m ≠ 1
def webF (n : Nat) (m : Int) (ve vf vl : V) : List (Str × V) := [("own_size", .int (n : Int)), ("own_edges", ve), ("own_modulus", .int m), ("own_forest", vf), ("links", vl)]
structure WebAt (K : PySem.W.Frag) (M : Ms) (H : Hp) (a : Addr) (n : Nat) (es : List Edge) (m : Int) (dx : Addr) (ve vf vl : V) : Prop where
  at_ : H a = some (.ins (ga K "Web") dx (webF n m ve vf vl))
  e : Dd M H ve (edgesD es)
  f : Dd M H vf (natsD (forest n es))
  l : Dd M H vl (linksD (lnk n es))
section
variable {K : PySem.W.Frag} {M M' : Ms} {H H' : Hp} {a : Addr} {n : Nat} {es : List Edge} {m : Int} {dx : Addr} {ve vf vl : V}
theorem WebAt.same (h : WebAt K M H a n es m dx ve vf vl) (s : Same H H') : WebAt K M H' a n es m dx ve vf vl := ⟨s _ _ h.at_, h.e.same s, h.f.same s, h.l.same s⟩
theorem WebAt.also {D : Addr} (h : WebAt K M H a n es m dx ve vf vl) (k : H D = none) : WebAt K (also M D) H a n es m dx ve vf vl := ⟨h.at_, h.e.also k, h.f.also k, h.l.also k⟩
theorem WebAt.less (h : WebAt K M H a n es m dx ve vf vl) (k : ∀ a, M' a → M a) : WebAt K M' H a n es m dx ve vf vl := ⟨h.at_, h.e.less k, h.f.less k, h.l.less k⟩
end
section
variable {P : Program} {w : World} {K : PySem.W.Frag} {mg : Str → Option Value} {base : Heap}
abbrev n_winit : List Str := ["self", "size", "edges", "modulus"]
theorem sc_winit : FnScope n_winit n_winit (defScope s_Web_init) := ⟨rfl, rfl, rfl, by decide +kernel, rfl, by decide +kernel, by decide +kernel⟩
def spWinit (K : PySem.W.Frag) : Sp := fun vs H Q _ => vs.length = 4 ∧ ∃ (M : Ms) (x dx : Addr) (n : Nat) (m : Int) (v : V) (es : List Edge), vs = [.ref x, .int n, v, .int m] ∧ H x = some (.ins (ga K "Web") dx []) ∧ M x ∧ MOk M H ∧ Dd M H v (edgesD es) ∧ WebOk n es m ∧
  ∀ H' ve vf vl, Sx x H H' → WebAt K M H' x n es m dx ve vf vl → Q .non H'
theorem ok_winit (T : Tx K mg) : GdK P w K mg base 5 (ma K (ga K "Web") "__init__") n_winit (spWinit K) 3 ["modulus"] (fun vs zs => vs ++ zs) := by
  have G1 : Gd P w K mg base 4 (ga K "is_within") ["thing", "least", "most"] spIsWithin := (ok_is_within T).mono (by decide)
  have G2 : Gd P w K mg base 4 (ga K "check_edges") ["size", "edges"] spCheckEdges := ok_check_edges T
  have G3 : Gd P w K mg base 4 (ga K "is_modulus") ["thing"] spIsModulus := (ok_is_modulus T).mono (by decide)
  have G4 : Gd P w K mg base 4 (ga K "forest_of") ["size", "pairs"] spForest := (ok_forest T).mono (by decide)
  have G5 : Gd P w K mg base 4 (ga K "links_of") ["size", "pairs", "forest"] spLinks := (ok_links T).mono (by decide)
  obtain ⟨t30, h30⟩ := T.i_MOST_NODES
  obtain ⟨fd, F⟩ := T.f_Web_init
  obtain ⟨its, mv, kb⟩ := F.kbinds (ps := n_winit) 3 ["modulus"] [] (fun us _ _ ws => us ++ ws) (by simp) (by simp) (fun q h => absurd h List.not_mem_nil) (fun r1 _ _ r4 => r1.append r4)
    (fun T D doc pm an cdv ct us its mv ws h1 h2 h3 h4 => match us, its, mv, ws, h1, h2, h3, h4 with | [_, _, _], [_], [], [_], _, _, _, _ => ⟨_, rfl, rfl⟩)
  refine ⟨⟨fd, _, fnok_of F sc_winit (fun _ _ _ _ h => h.1) (fun cdv A outer s H vs Q E hr h => ?_), kb⟩, F.kp⟩
  obtain ⟨_, M, x, dx, n, m, v, es, rfl, hx, mx, mok, hv, O, k⟩ := h
  obtain ⟨a, xs, rfl, hm, ha, hl, hall, _⟩ := hv.items edgeD es
  have nd := sc_winit.nd
  refine ⟨_, pss_cons (ps_if (pt_not (pt_val (pe_callG G1 hr rfl T.g_is_within (pa_cons (pv 1) (pa_cons pe_int (pa_cons (pe_glob (v := .int 30) rfl h30 ⟨_, rfl⟩) pa_nil)))))) pss_never pss_nil)
    (pss_cons (ps_expr (pe_callG G2 hr rfl T.g_check_edges (pa_cons (pv 1) (pa_cons (pv 2) pa_nil))))
    (pss_cons (ps_if (pt_not (pt_val (pe_callG G3 hr rfl T.g_is_modulus (pa_cons (pv 3) pa_nil)))) pss_never pss_nil)
    (pss_cons (ps_fld (pv 0) (pv 1) rfl)
    (pss_cons (ps_fld (pv 0) (pe_callTy call_list_of (by rfl) T.n_list (by decide +kernel) (pa_cons (pv 2) pa_nil)) rfl)
    (pss_cons (ps_fld (pv 0) (pv 3) rfl)
    (pss_cons (ps_fld (pv 0) (pe_callG G4 hr rfl T.g_forest_of (pa_cons (pv 1) (pa_cons (pv 2) pa_nil))) rfl)
    (pss_one (ps_fld (pv 0) (pe_callG G5 hr rfl T.g_links_of (pa_cons (pv 1) (pa_cons (pv 2) (pa_cons (pe_fld (pv 0) rfl) pa_nil)))) rfl)))))))), ?_⟩
  have o1 := O.n1
  have o2 := O.n30
  refine ⟨_, rfl, rfl, _, _, _, rfl, true, ?_, iteF ?_⟩
  · have e : (decide ((1 : Int) ≤ (n : Int)) && decide ((n : Int) ≤ 30)) = true := by simp; omega
    rw [e]
  refine ⟨_, rfl, _, rfl, rfl, M, n, _, es, rfl, hv, O.e, O.l, fun H1 s1 => ?_⟩
  refine ⟨_, rfl, rfl, m, rfl, O.m0, O.m60, O.m1, true, rfl, iteF ?_⟩
  have hx1 := s1 _ _ hx
  refine ⟨_, rfl, _, rfl, x, _, dx, _, rfl, hx1, T.c_Web, T.a_Web_own_size, by show 0 < 1000; decide, ?_⟩
  have S2 : Sx x H (upd H1 x (.ins (ga K "Web") dx (putF "own_size" (.int (n : Int)) []))) := ((Sx.refl ⟨_, hx⟩).same s1).upd
  have hx2 : upd H1 x (.ins (ga K "Web") dx (putF "own_size" (.int (n : Int)) [])) x = some (.ins (ga K "Web") dx [("own_size", .int (n : Int))]) := upd_same
  generalize upd H1 x (.ins (ga K "Web") dx (putF "own_size" (.int (n : Int)) [])) = H2 at S2 hx2 ⊢
  have nax : a ≠ x := fun z => hm (z ▸ mx)
  refine ⟨_, rfl, a, xs, rfl, .inl (SqL.of (S2.1 _ _ nax ha)), fun l hlN => ?_⟩
  have s3 := Same.new (o := .lst xs) hlN
  refine ⟨_, rfl, x, _, dx, _, rfl, s3 _ _ hx2, T.c_Web, T.a_Web_own_edges, by show 1 < 1000; decide, ?_⟩
  have nlx : l ≠ x := fun z => by rw [z, hx2] at hlN; cases hlN
  have S3 : Sx x H (upd (upd H2 l (.lst xs)) x (.ins (ga K "Web") dx (putF "own_edges" (.ref l) [("own_size", .int (n : Int))]))) := (S2.same s3).upd
  have hx3 : upd (upd H2 l (.lst xs)) x (.ins (ga K "Web") dx (putF "own_edges" (.ref l) [("own_size", .int (n : Int))])) x = some (.ins (ga K "Web") dx [("own_size", .int (n : Int)), ("own_edges", .ref l)]) := upd_same
  have hl3 : upd (upd H2 l (.lst xs)) x (.ins (ga K "Web") dx (putF "own_edges" (.ref l) [("own_size", .int (n : Int))])) l = some (.lst xs) := by rw [upd_ne nlx, upd_same]
  generalize upd (upd H2 l (.lst xs)) x (.ins (ga K "Web") dx (putF "own_edges" (.ref l) [("own_size", .int (n : Int))])) = H3 at S3 hx3 hl3 ⊢
  have mok3 := mok.sx S3
  have nlM : ¬ M l := mok.new (S2.fresh hlN)
  refine ⟨_, rfl, _, rfl, x, _, dx, _, rfl, hx3, T.c_Web, T.a_Web_own_modulus, by show 2 < 1000; decide, ?_⟩
  have S4 : Sx x H3 (upd H3 x (.ins (ga K "Web") dx (putF "own_modulus" (.int m) [("own_size", .int (n : Int)), ("own_edges", .ref l)]))) := (Sx.refl ⟨_, hx3⟩).upd
  have hx4 : upd H3 x (.ins (ga K "Web") dx (putF "own_modulus" (.int m) [("own_size", .int (n : Int)), ("own_edges", .ref l)])) x = some (.ins (ga K "Web") dx [("own_size", .int (n : Int)), ("own_edges", .ref l), ("own_modulus", .int m)]) := upd_same
  have hl4 := S4.1 _ _ nlx hl3
  generalize upd H3 x (.ins (ga K "Web") dx (putF "own_modulus" (.int m) [("own_size", .int (n : Int)), ("own_edges", .ref l)])) = H4 at S4 hx4 hl4 ⊢
  have S04 := S3.trans S4
  have hv4 := hv.sx S04 mx
  have mok4 := mok.sx S04
  refine ⟨_, rfl, _, rfl, rfl, M, n, _, es, rfl, mok4, hv4, O.e, O.l, o2, fun rf H5 s5 dF => ?_⟩
  refine ⟨_, rfl, x, _, dx, _, rfl, s5 _ _ hx4, T.c_Web, T.a_Web_own_forest, by show 3 < 1000; decide, ?_⟩
  have S5 : Sx x H5 (upd H5 x (.ins (ga K "Web") dx (putF "own_forest" rf [("own_size", .int (n : Int)), ("own_edges", .ref l), ("own_modulus", .int m)]))) := (Sx.refl ⟨_, s5 _ _ hx4⟩).upd
  have hx5 : upd H5 x (.ins (ga K "Web") dx (putF "own_forest" rf [("own_size", .int (n : Int)), ("own_edges", .ref l), ("own_modulus", .int m)])) x = some (.ins (ga K "Web") dx [("own_size", .int (n : Int)), ("own_edges", .ref l), ("own_modulus", .int m), ("own_forest", rf)]) := upd_same
  have hl5 := S5.1 _ _ nlx (s5 _ _ hl4)
  generalize upd H5 x (.ins (ga K "Web") dx (putF "own_forest" rf [("own_size", .int (n : Int)), ("own_edges", .ref l), ("own_modulus", .int m)])) = H6 at S5 hx5 hl5 ⊢
  have S06 := (S04.same s5).trans S5
  have dF6 := dF.sx S5 mx
  have fl : (forest n es).length ≤ 60 := Nat.le_trans (fSt_le n es _) O.l
  refine ⟨_, rfl, _, rfl, _, rfl, x, _, dx, _, rf, rfl, hx5, T.c_Web, T.a_Web_own_forest, rfl, rfl, M, n, _, _, es, forest n es, rfl, mok.sx S06, hv.sx S06 mx, dF6, O.e, fun i hi => forest_lt O.e hi, fl, o2, fun rl H7 s7 dL => ?_⟩
  refine ⟨_, rfl, x, _, dx, _, rfl, s7 _ _ hx5, T.c_Web, T.a_Web_links, by show 4 < 1000; decide, ?_⟩
  have S7 : Sx x H7 (upd H7 x (.ins (ga K "Web") dx (putF "links" rl [("own_size", .int (n : Int)), ("own_edges", .ref l), ("own_modulus", .int m), ("own_forest", rf)]))) := (Sx.refl ⟨_, s7 _ _ hx5⟩).upd
  refine k _ (.ref l) rf rl ((S06.same s7).trans S7) ⟨upd_same, ?_, (dF6.same s7).sx S7 mx, dL.sx S7 mx⟩
  refine .lst nlM (S7.1 _ _ nlx (s7 _ _ hl5)) ?_
  have d0 : DdAll M H6 xs (es.map edgeD) := DdAll.move (fun b o nb e => ⟨nb, S06.1 b o (fun z => nb (z ▸ mx)) e⟩) _ _ hall
  exact DdAll.move (fun b o nb e => ⟨nb, S7.1 b o (fun z => nb (z ▸ mx)) e⟩) _ _ (d0.same s7)
end
end Tt
set_option Elab.async false
set_option linter.all false
set_option maxRecDepth 100000
set_option maxHeartbeats 4000000
/-! webs: the small methods, cycles, walks -/
namespace Tt
open PySem PySem.Spec PyProof.Rows L2 He
section
variable {P : Program} {w : World} {K : PySem.W.Frag} {mg : Str → Option Value} {base : Heap}
theorem sc_wsize : FnScope ["self"] ["self"] (defScope s_Web_size) := ⟨rfl, rfl, rfl, by decide +kernel, rfl, by decide +kernel, by decide +kernel⟩
def spWsize (K : PySem.W.Frag) : Sp := fun vs H Q _ => vs.length = 1 ∧ ∃ (M : Ms) (a : Addr) (n : Nat) (es : List Edge) (m : Int) (dx : Addr) (ve vf vl : V), vs = [.ref a] ∧ WebAt K M H a n es m dx ve vf vl ∧ Q (.int (n : Int)) H
theorem ok_wsize (T : Tx K mg) : Gd P w K mg base 1 (ma K (ga K "Web") "size") ["self"] (spWsize K) := by
  refine gd_of T.f_Web_size sc_wsize (fun _ _ _ _ _ _ us hl => match us, hl with | [_], _ => rfl) (fun _ _ _ _ h => h.1) (fun cdv A outer s H vs Q E hr h => ?_)
  obtain ⟨_, M, a, n, es, m, dx, ve, vf, vl, rfl, S, k⟩ := h
  refine ⟨_, pss_one (ps_ret (pe_fld (pv 0) rfl)), ?_⟩
  exact ⟨_, rfl, a, _, dx, _, _, rfl, S.at_, T.c_Web, T.a_Web_own_size, rfl, k⟩
theorem sc_wmod : FnScope ["self"] ["self"] (defScope s_Web_modulus) := ⟨rfl, rfl, rfl, by decide +kernel, rfl, by decide +kernel, by decide +kernel⟩
def spWmod (K : PySem.W.Frag) : Sp := fun vs H Q _ => vs.length = 1 ∧ ∃ (M : Ms) (a : Addr) (n : Nat) (es : List Edge) (m : Int) (dx : Addr) (ve vf vl : V), vs = [.ref a] ∧ WebAt K M H a n es m dx ve vf vl ∧ Q (.int m) H
theorem ok_wmod (T : Tx K mg) : Gd P w K mg base 1 (ma K (ga K "Web") "modulus") ["self"] (spWmod K) := by
  refine gd_of T.f_Web_modulus sc_wmod (fun _ _ _ _ _ _ us hl => match us, hl with | [_], _ => rfl) (fun _ _ _ _ h => h.1) (fun cdv A outer s H vs Q E hr h => ?_)
  obtain ⟨_, M, a, n, es, m, dx, ve, vf, vl, rfl, S, k⟩ := h
  refine ⟨_, pss_one (ps_ret (pe_fld (pv 0) rfl)), ?_⟩
  exact ⟨_, rfl, a, _, dx, _, _, rfl, S.at_, T.c_Web, T.a_Web_own_modulus, rfl, k⟩
theorem sc_wedges : FnScope ["self"] ["self"] (defScope s_Web_edges) := ⟨rfl, rfl, rfl, by decide +kernel, rfl, by decide +kernel, by decide +kernel⟩
def spWedges (K : PySem.W.Frag) : Sp := fun vs H Q _ => vs.length = 1 ∧ ∃ (M : Ms) (a : Addr) (n : Nat) (es : List Edge) (m : Int) (dx : Addr) (ve vf vl : V), vs = [.ref a] ∧ MOk M H ∧ WebAt K M H a n es m dx ve vf vl ∧
  ∀ r H', Same H H' → Dd M H' r (edgesD es) → Q r H'
theorem ok_wedges (T : Tx K mg) : Gd P w K mg base 1 (ma K (ga K "Web") "edges") ["self"] (spWedges K) := by
  refine gd_of T.f_Web_edges sc_wedges (fun _ _ _ _ _ _ us hl => match us, hl with | [_], _ => rfl) (fun _ _ _ _ h => h.1) (fun cdv A outer s H vs Q E hr h => ?_)
  obtain ⟨_, M, a, n, es, m, dx, ve, vf, vl, rfl, mok, S, k⟩ := h
  obtain ⟨ea, xs, rfl, hm, hea, hl, hall, _⟩ := S.e.items edgeD es
  refine ⟨_, pss_one (ps_ret (pe_callTy call_list_of (by rfl) T.n_list (by decide +kernel) (pa_cons (pe_fld (pv 0) rfl) pa_nil))), ?_⟩
  refine ⟨_, rfl, a, _, dx, _, .ref ea, rfl, S.at_, T.c_Web, T.a_Web_own_edges, rfl, ea, xs, rfl, .inl (SqL.of hea), fun l hl' => ?_⟩
  exact k _ _ (Same.new hl') (.lst (mok.new hl') upd_same (hall.same (Same.new hl')))
theorem sc_wlen : FnScope ["self"] ["self"] (defScope s_Web_len) := ⟨rfl, rfl, rfl, by decide +kernel, rfl, by decide +kernel, by decide +kernel⟩
def spWlen (K : PySem.W.Frag) : Sp := fun vs H Q _ => vs.length = 1 ∧ ∃ (M : Ms) (a : Addr) (n : Nat) (es : List Edge) (m : Int) (dx : Addr) (ve vf vl : V), vs = [.ref a] ∧ WebAt K M H a n es m dx ve vf vl ∧ Q (.int (es.length : Int)) H
theorem ok_wlen (T : Tx K mg) : Gd P w K mg base 1 (ma K (ga K "Web") "__len__") ["self"] (spWlen K) := by
  refine gd_of T.f_Web_len sc_wlen (fun _ _ _ _ _ _ us hl => match us, hl with | [_], _ => rfl) (fun _ _ _ _ h => h.1) (fun cdv A outer s H vs Q E hr h => ?_)
  obtain ⟨_, M, a, n, es, m, dx, ve, vf, vl, rfl, S, k⟩ := h
  obtain ⟨ea, xs, rfl, hm, hea, hl, hall, _⟩ := S.e.items edgeD es
  refine ⟨_, pss_one (ps_ret (pe_len (pe_fld (pv 0) rfl) rfl T.n_len)), ?_⟩
  refine ⟨_, rfl, a, _, dx, _, .ref ea, rfl, S.at_, T.c_Web, T.a_Web_own_edges, rfl, ea, xs, rfl, .inl (SqL.of hea), ?_⟩
  rw [hl]
  exact k
theorem sc_wedge : FnScope ["self", "number"] ["self", "number"] (defScope s_Web_edge) := ⟨rfl, rfl, rfl, by decide +kernel, rfl, by decide +kernel, by decide +kernel⟩
def spWedge (K : PySem.W.Frag) : Sp := fun vs H Q _ => vs.length = 2 ∧ ∃ (M : Ms) (a : Addr) (n : Nat) (es : List Edge) (m : Int) (dx : Addr) (ve vf vl : V) (i : Nat), vs = [.ref a, .int (i : Int)] ∧ WebAt K M H a n es m dx ve vf vl ∧ i < es.length ∧
  ∀ t, H t = some (.tup [.int ((es.getD i (0, 0)).1 : Int), .int ((es.getD i (0, 0)).2 : Int)]) → Q (.ref t) H
theorem ok_wedge (T : Tx K mg) : Gd P w K mg base 3 (ma K (ga K "Web") "edge") ["self", "number"] (spWedge K) := by
  have G1 : Gd P w K mg base 2 (ga K "is_within") ["thing", "least", "most"] spIsWithin := ok_is_within T
  refine gd_of T.f_Web_edge sc_wedge (fun _ _ _ _ _ _ us hl => match us, hl with | [_, _], _ => rfl) (fun _ _ _ _ h => h.1) (fun cdv A outer s H vs Q E hr h => ?_)
  obtain ⟨_, M, a, n, es, m, dx, ve, vf, vl, i, rfl, S, hi, k⟩ := h
  obtain ⟨ea, xs, rfl, hm, hea, hl, hall, _⟩ := S.e.items edgeD es
  refine ⟨_, pss_cons (ps_if (pt_not (pt_val (pe_callG G1 hr rfl T.g_is_within (pa_cons (pv 1) (pa_cons pe_int (pa_cons (pe_op op_sub (pe_len (pe_fld (pv 0) rfl) rfl T.n_len) pe_int) pa_nil)))))) pss_never pss_nil)
    (pss_one (ps_ret (pe_ix ix_list (pe_fld (pv 0) rfl) (pv 1) (fun _ _ => rfl)))), ?_⟩
  refine ⟨_, rfl, _, rfl, a, _, dx, _, .ref ea, rfl, S.at_, T.c_Web, T.a_Web_own_edges, rfl, ea, xs, rfl, .inl (SqL.of hea), _, _, rfl, rfl, rfl, _, _, _, rfl, true, ?_, iteF ?_⟩
  · have e : (decide ((0 : Int) ≤ (i : Int)) && decide ((i : Int) ≤ (xs.length : Int) - 1)) = true := by simp; omega
    rw [e]
  obtain ⟨y, hy, dy⟩ := hall.nth' hi (0, 0)
  obtain ⟨t, rfl, ht⟩ := Dd.edge _ dy
  exact ⟨_, rfl, a, _, dx, _, .ref ea, rfl, S.at_, T.c_Web, T.a_Web_own_edges, rfl, _, rfl, ea, xs, _, _, rfl, rfl, SqL.of hea, atI_nat hy, k t ht⟩
abbrev n_cycles : List Str := ["self", "found", "number", "tail", "head"]
theorem sc_cycles : FnScope n_cycles ["self"] (defScope s_Web_cycles) := ⟨rfl, rfl, rfl, by decide +kernel, rfl, by decide +kernel, by decide +kernel⟩
def spCycles (K : PySem.W.Frag) : Sp := fun vs H Q _ => vs.length = 1 ∧ ∃ (M : Ms) (a : Addr) (n : Nat) (es : List Edge) (m : Int) (dx : Addr) (ve vf vl : V), vs = [.ref a] ∧ MOk M H ∧ WebAt K M H a n es m dx ve vf vl ∧ WebOk n es m ∧
  ∀ r H', Same H H' → Dd M H' r (walksD (cycles n es)) → Q r H'
theorem inV_nvs (n : Nat) (ns : List Nat) : inV (.int (n : Int)) (nvs ns) = decide (n ∈ ns) := by
  unfold inV nvs
  rw [Bool.eq_iff_iff]
  simp only [List.any_map, List.any_eq_true, decide_eq_true_eq]
  constructor
  · rintro ⟨x, hx, e⟩
    have e' : ((x : Int) == (n : Int)) = true := e
    have : x = n := Int.ofNat_inj.mp (by simpa using e')
    rw [← this]; exact hx
  · intro h
    refine ⟨n, h, ?_⟩
    show ((n : Int) == (n : Int)) = true
    simp
theorem flat_nvs (ns : List Nat) : (nvs ns).all flatV = true := by
  unfold nvs
  simp [nv, flatV]
theorem ok_cycles (T : Tx K mg) : Gd P w K mg base 2 (ma K (ga K "Web") "cycles") ["self"] (spCycles K) := by
  have G1 : Gd P w K mg base 1 (ga K "walk_paths") ["links", "start"] spWalk := ok_walk T
  refine gd_of T.f_Web_cycles sc_cycles (fun _ _ _ _ _ _ us hl => match us, hl with | [_], _ => rfl) (fun _ _ _ _ h => h.1) (fun cdv A outer s H vs Q E hr h => ?_)
  obtain ⟨_, M, a, n, es, m, dx, ve, vf, vl, rfl, mok, S, O, k⟩ := h
  have nd := sc_cycles.nd
  have hu := hu_of hr
  obtain ⟨ea, xs, rfl, hm, hea, hl, hall, _⟩ := S.e.items edgeD es
  obtain ⟨fa', rfl, fm, hfa⟩ := S.f.nats
  refine ⟨_, pss_cons (ps_set (i := 1) nd rfl (Or.inl rfl) (pe_lst pa_nil))
    (pss_cons (ps_for PassesOwn.never rfl (pi_enum (by rfl) T.n_enumerate (pa_cons (pe_fld (pv 0) rfl) pa_nil))
      (pg_tup rfl (pgs_cons (pg_name (i := 2) nd rfl (Or.inl rfl)) (pgs_cons (pg_tup rfl (pgs_cons (pg_name (i := 3) nd rfl (Or.inl rfl)) (pgs_cons (pg_name (i := 4) nd rfl (Or.inl rfl)) pgs_nil))) pgs_nil)))
      (pss_one (ps_if (pt_cmpR op_notIn_seq (pv 2) (pe_fld (pv 0) rfl) (by rfl))
        (pss_one (ps_expr (pe_bm PySem.F.plainAttrs_list PySem.F.slot_list_append PySem.F.type_list_append mt_append (pv 1) (pa_cons
          (pe_op op_cat (pe_lst (pa_cons (pe_tup (pa_cons (pv 2) (pa_cons pe_int pa_nil))) pa_nil)) (pe_dget hu (pe_callG G1 hr rfl T.g_walk_paths (pa_cons (pe_fld (pv 0) rfl) (pa_cons (pv 4) pa_nil))) (pv 3) (fun _ _ => rfl))) pa_nil))))
        pss_nil)))
    (pss_one (ps_ret (pv 1)))), ?_⟩
  refine ⟨by decide, fun F hF => ?_⟩
  have s0 := Same.new (o := .lst []) hF
  refine ⟨_, rfl, a, _, dx, _, .ref ea, rfl, s0 _ _ S.at_, T.c_Web, T.a_Web_own_edges, rfl, ea, xs, rfl, SqL.of (s0 _ _ hea), for_it (walk_enum (xs := xs)) (fun i σ H' => ∃ (x2 x3 x4 : Option V) (ws : List V), σ = [some (.ref a), some (.ref F), x2, x3, x4] ∧ Same H H' ∧
    H' F = some (.lst ws) ∧ DdAll (also M F) H' ws ((cycs n es i).map walkD)) ⟨_, _, _, [], rfl, s0, upd_same, .nil⟩ (fun i σ H' _ ⟨_, _, _, _, _, s, _⟩ => SqL.of (s _ _ hea)) ?_ ?_⟩
  · rintro i x σ H1 H2 hi ⟨x2, x3, x4, ws, rfl, s1, hF1, dF⟩ ⟨T0, z1, z2, rfl, hT, rfl, e1, e2⟩
    obtain rfl := Option.some.inj e1
    obtain ⟨hi', dy⟩ := hall.nth e2 (0, 0)
    obtain ⟨t, rfl, ht⟩ := Dd.edge _ dy
    have sT := Same.new (o := .tup [.int (i : Nat), .ref t]) hT
    have s2 := Same.trans' s1 sT
    have hF2 := sT _ _ hF1
    have dF2 := dF.same sT
    have mo2 : MOk (also M F) (upd H1 T0 (.tup [.int (i : Nat), .ref t])) := ((mok.same s1).also hF1).same sT
    refine ⟨T0, _, rfl, SqT.of upd_same, rfl, _, _, rfl, _, _, rfl, ⟨t, _, rfl, SqT.of (s2 _ _ ht), rfl, _, _, rfl, _, _, rfl, rfl, rfl, ?_⟩⟩
    generalize upd H1 T0 (.tup [.int (i : Nat), .ref t]) = H2 at s2 hF2 dF2 mo2 ⊢
    refine ⟨_, rfl, _, rfl, a, _, dx, _, .ref fa', rfl, s2 _ _ S.at_, T.c_Web, T.a_Web_own_forest, rfl, fa', _, rfl, .inl (SqL.of (s2 _ _ hfa)), rfl, flat_nvs _, _, rfl, ?_⟩
    rw [cycs_succ]
    by_cases hf : i ∈ forest n es
    · refine iteN (by show (!inV _ _) = false; rw [inV_nvs, decide_eq_true hf]; rfl) ?_
      rw [if_pos hf, List.append_nil]
      exact ⟨_, _, _, ws, rfl, s2, hF2, dF2⟩
    · refine iteY (by show (!inV _ _) = true; rw [inV_nvs, decide_eq_false hf]; rfl) ?_
      rw [if_neg hf, List.map_append]
      refine ⟨_, rfl, .inl ⟨rfl, _, SqL.of hF2⟩, _, rfl, by show 2 ≤ sizeLine; decide, fun t1 ht1 => ⟨by show 1 ≤ sizeLine; decide, fun l1 hl1 => ?_⟩⟩
      have a1 : upd H2 t1 (.tup [.int (i : Nat), .int 1]) t1 = some (.tup [.int (i : Nat), .int 1]) := upd_same
      have st1 := Same.new (o := .tup [.int (i : Nat), .int 1]) ht1
      have nt1 := mo2.new ht1
      generalize upd H2 t1 (.tup [.int (i : Nat), .int 1]) = H3 at a1 st1 hl1 ⊢
      have a2 : upd H3 l1 (.lst [.ref t1]) l1 = some (.lst [.ref t1]) := upd_same
      have st2 := Same.new (o := .lst [.ref t1]) hl1
      generalize upd H3 l1 (.lst [.ref t1]) = H4 at a2 st2 ⊢
      have s4 := Same.trans' (Same.trans' s2 st1) st2
      have mo4 : MOk (also M F) H4 := (mo2.same st1).same st2
      have hd : (es.getD i (0, 0)).2 < (lnk n es).length := by rw [lnk_len]; exact (O.e i hi').2
      have lk := (S.l.also hF).same s4
      refine ⟨_, rfl, a, _, dx, _, vl, rfl, s4 _ _ S.at_, T.c_Web, T.a_Web_links, rfl, _, rfl, rfl, also M F, _, (es.getD i (0, 0)).2, lnk n es, rfl, mo4, lk, lnk_in O.e, hd, by rw [lnk_len]; exact O.n30, fun p H5 kvs s5 np hp pd => ?_⟩
      have hk := phas_iff.mpr (sk_head O.e hi')
      obtain ⟨pv', hpv, dpv⟩ := pd.has hk
      obtain ⟨pa, ps', rfl, pm, hpa, pl, pall, _⟩ := dpv.items stepD (pget (walkPaths (lnk n es) (es.getD i (0, 0)).2) (es.getD i (0, 0)).1)
      refine ⟨_, rfl, p, .ref pa, rfl, hpv ▸ DGet.k (k := Sum.inl ((es.getD i (0, 0)).1 : Int)) hp, ?_⟩
      have plen : (pget (walkPaths (lnk n es) (es.getD i (0, 0)).2) (es.getD i (0, 0)).1).length < 30 := by
        have h1 := bfs_len (lnk_in O.e) hd (lnk n es).length _ (pget_mem hk)
        have h2 := (walkPaths_inv (lnk_in O.e) hd).few
        have h3 : (walkPaths (lnk n es) (es.getD i (0, 0)).2).length = (bfs (lnk n es) (es.getD i (0, 0)).2 (lnk n es).length).1.length := rfl
        rw [lnk_len] at h2
        have h4 : (pget (walkPaths (lnk n es) (es.getD i (0, 0)).2) (es.getD i (0, 0)).1).length < (walkPaths (lnk n es) (es.getD i (0, 0)).2).length := h1
        have := O.n30
        omega
      refine ⟨l1, pa, [.ref t1], ps', rfl, rfl, s5 _ _ a2, hpa, by show 1 + ps'.length ≤ 16777216; omega, fun c hc => ?_⟩
      have sc := Same.new (o := .lst ([.ref t1] ++ ps')) hc
      have sA := Same.trans' (Same.trans' st1 st2) (Same.trans' s5 sc)
      have hF6 := sA _ _ hF2
      refine ⟨F, ws, _, rfl, rfl, hF6, ?_, ?_⟩
      · have := dF2.length
        rw [List.length_map] at this
        have := cycs_len (n := n) (es := es) i
        have := O.l
        show _ < 16777216; omega
      refine ⟨_, _, _, ws ++ [.ref c], rfl, Same.mut (Same.trans' s2 sA) hF, upd_same, ?_⟩
      refine DdAll.append ((dF2.same sA).upd (.inr rfl)) (.cons ?_ .nil)
      refine Dd.upd ?_ (.inr rfl)
      have mo5 : MOk (also M F) H5 := mo4.same s5
      refine .lst (mo5.new hc) upd_same ?_
      show DdAll (also M F) _ ([.ref t1] ++ ps') ([stepD (i, 1)] ++ (pget (walkPaths (lnk n es) (es.getD i (0, 0)).2) (es.getD i (0, 0)).1).map stepD)
      refine DdAll.append (.cons (mk_stp (i, 1) nt1 (sc _ _ (s5 _ _ (st2 _ _ a1)))) .nil) ((pall.less fun b h => .inl h).same sc)
  · rintro σ H1 ⟨x2, x3, x4, ws, rfl, s1, hF1, dF⟩
    rw [hl] at dF
    exact ⟨_, rfl, k _ _ s1 (.lst (mok.new hF) hF1 (dF.less fun b h => .inl h))⟩
end
end Tt
set_option Elab.async false
set_option linter.all false
set_option maxRecDepth 100000
set_option maxHeartbeats 4000000
/-! webs: is_step, step_ends, is_walk -/
namespace Tt
open PySem PySem.Spec PyProof.Rows L2 He
section
variable {X : Cx}
/-- len(web) -/
theorem pe_lenW {e : Expr} {te : TE} {p pos : Pos} (T : Tx X.K X.mg) (hr : Room 2 X.A) (he : PE X e te) (hg : Gl X "len") (hs : starEach [e] X.env = (false, eval e X.env) :: starEach [] X.env := by rfl) :
    PE X (.Call (.Name "len" p) [e] [] pos) (tCB (fun xs H Q => ∃ (M : Ms) (a : Addr) (n : Nat) (es : List Edge) (m : Int) (dx : Addr) (ve vf vl : V), xs = [.ref a] ∧ WebAt X.K M H a n es m dx ve vf vl ∧ es.length ≤ 1000 ∧ Q (.int (es.length : Int)) H) (tCons te tNil)) := by
  obtain ⟨⟨fd, F, b⟩, kp⟩ := ok_wlen (P := X.prog) (w := X.w) (base := X.base) T
  refine pe_callB (X := X) (p := p) (pos := pos) (id := "len") (fun pins s σ H xs us Q I r h => ?_) hg T.n_len PySem.boot_len (pa_cons he pa_nil hs) (by decide) (by decide) hs rfl
  obtain ⟨M, a, n, es, m, dx, ve, vf, vl, rfl, S, hl, q⟩ := h
  exact call_lenI F hr T.m_Web_len T.c_Web b pass0 pins s σ H _ us Q I r ⟨a, dx, _, rfl, S.at_, rfl, M, a, n, es, m, dx, ve, vf, vl, rfl, S, (es.length : Int), rfl, by omega, by omega, q⟩
end
section
variable {P : Program} {w : World} {K : PySem.W.Frag} {mg : Str → Option Value} {base : Heap}
theorem sc_is_step : FnScope ["web", "thing"] ["web", "thing"] (defScope s_is_step) := ⟨rfl, rfl, rfl, by decide +kernel, rfl, by decide +kernel, by decide +kernel⟩
def spIsStep (K : PySem.W.Frag) : Sp := fun vs H Q _ => vs.length = 2 ∧ ∃ (M : Ms) (a t : Addr) (n : Nat) (es : List Edge) (m : Int) (dx : Addr) (ve vf vl : V) (st : Stp), vs = [.ref a, .ref t] ∧ WebAt K M H a n es m dx ve vf vl ∧ es.length ≤ 60 ∧
  H t = some (.tup [.int (st.1 : Int), .int st.2]) ∧ StepOk es st ∧ Q (.bl true) H
theorem ok_is_step (T : Tx K mg) : Gd P w K mg base 3 (ga K "is_step") ["web", "thing"] (spIsStep K) := by
  have G1 : Gd P w K mg base 2 (ga K "is_within") ["thing", "least", "most"] spIsWithin := ok_is_within T
  refine gd_of T.f_is_step sc_is_step (fun _ _ _ _ _ _ us hl => match us, hl with | [_, _], _ => rfl) (fun _ _ _ _ h => h.1) (fun cdv A outer s H vs Q E hr h => ?_)
  obtain ⟨_, M, a, t, n, es, m, dx, ve, vf, vl, st, rfl, S, el, ht, so, k⟩ := h
  refine ⟨_, pss_cons (ps_if (PW.pt (pw_or (pt_not (pt_val (pe_isi "tuple" (pv 1) rfl T.n_isinstance rfl T.n_tuple (by decide +kernel)))) (pw_or1 (pt_cmpR op_ne (pe_len (pv 1) rfl T.n_len) pe_int (nomark _))))) (pss_one (ps_ret pe_bl)) pss_nil)
    (pss_one (ps_ret (pe_and (pe_callG G1 hr rfl T.g_is_within (pa_cons (pe_ix ix_tup (pv 1) pe_int (fun _ _ => rfl)) (pa_cons pe_int (pa_cons (pe_op op_sub (pe_lenW T hr (pv 0) rfl) pe_int) pa_nil))))
      (pe_and (pe_callG G1 hr rfl T.g_is_within (pa_cons (pe_ix ix_tup (pv 1) pe_int (fun _ _ => rfl)) (pa_cons (pe_un un_neg pe_int) (pa_cons pe_int pa_nil))))
      (pe_one (pe_cmpR op_ne (pe_ix ix_tup (pv 1) pe_int (fun _ _ => rfl)) pe_int (nomark _))))))), ?_⟩
  refine ⟨_, rfl, _, _, _, _, true, rfl, .ty _, .base (.tup ht), kit_ty (by decide +kernel), true, rfl, iteF ?_⟩
  refine ⟨_, rfl, _, _, rfl, .inr (SqT.of ht), rfl, _, rfl, iteN (by rfl) ?_⟩
  obtain ⟨h1, h2⟩ := so
  refine ⟨_, rfl, _, _, _, _, rfl, rfl, SqT.of ht, rfl, _, rfl, M, a, n, es, m, dx, ve, vf, vl, rfl, S, by omega, _, _, rfl, rfl, rfl, _, _, _, rfl, true, ?_, iteT ?_⟩
  · have e : (decide ((0 : Int) ≤ (st.1 : Int)) && decide ((st.1 : Int) ≤ (es.length : Int) - 1)) = true := by simp; omega
    rw [e]
  refine ⟨_, rfl, _, _, _, _, rfl, rfl, SqT.of ht, rfl, _, rfl, rfl, _, _, _, rfl, true, ?_, iteT ?_⟩
  · have e : (decide (-1 ≤ st.2) && decide (st.2 ≤ 1)) = true := by rcases h2 with h2 | h2 <;> rw [h2] <;> rfl
    rw [e]
  refine ⟨_, rfl, _, _, _, _, rfl, rfl, SqT.of ht, rfl, rfl, ?_⟩
  have e : (!decide (V.int st.2 = V.int 0)) = true := vne (by rcases h2 with h2 | h2 <;> rw [h2] <;> decide)
  rw [e]
  exact k
abbrev n_ends : List Str := ["web", "step", "number", "way", "tail", "head"]
theorem sc_step_ends : FnScope n_ends ["web", "step"] (defScope s_step_ends) := ⟨rfl, rfl, rfl, by decide +kernel, rfl, by decide +kernel, by decide +kernel⟩
def spStepEnds (K : PySem.W.Frag) : Sp := fun vs H Q _ => vs.length = 2 ∧ ∃ (M : Ms) (a t : Addr) (n : Nat) (es : List Edge) (m : Int) (dx : Addr) (ve vf vl : V) (st : Stp), vs = [.ref a, .ref t] ∧ WebAt K M H a n es m dx ve vf vl ∧
  H t = some (.tup [.int (st.1 : Int), .int st.2]) ∧ StepOk es st ∧ ∀ r H', Same H H' → H r = none → H' r = some (.tup [.int ((sEnds es st).1 : Int), .int ((sEnds es st).2 : Int)]) → Q (.ref r) H'
theorem ok_step_ends (T : Tx K mg) : Gd P w K mg base 4 (ga K "step_ends") ["web", "step"] (spStepEnds K) := by
  have G1 : Gd P w K mg base 3 (ma K (ga K "Web") "edge") ["self", "number"] (spWedge K) := ok_wedge T
  refine gd_of T.f_step_ends sc_step_ends (fun _ _ _ _ _ _ us hl => match us, hl with | [_, _], _ => rfl) (fun _ _ _ _ h => h.1) (fun cdv A outer s H vs Q E hr h => ?_)
  obtain ⟨_, M, a, t, n, es, m, dx, ve, vf, vl, st, rfl, S, ht, so, k⟩ := h
  have nd := sc_step_ends.nd
  refine ⟨_, pss_cons (ps_asg (pv 1) (pg_tup rfl (pgs_cons (pg_name (i := 2) nd rfl (Or.inl rfl)) (pgs_cons (pg_name (i := 3) nd rfl (Or.inl rfl)) pgs_nil))))
    (pss_cons (ps_asg (pe_methG (pv 0) T.c_Web T.m_Web_edge G1 hr (pa_cons (pv 2) pa_nil)) (pg_tup rfl (pgs_cons (pg_name (i := 4) nd rfl (Or.inl rfl)) (pgs_cons (pg_name (i := 5) nd rfl (Or.inl rfl)) pgs_nil))))
    (pss_one (ps_ret (pe_ifExp (pt_cmpR op_eq (pv 3) pe_int (nomark _)) (pe_tup (pa_cons (pv 4) (pa_cons (pv 5) pa_nil))) (pe_tup (pa_cons (pv 5) (pa_cons (pv 4) pa_nil))))))), ?_⟩
  obtain ⟨h1, h2⟩ := so
  refine ⟨_, rfl, t, _, rfl, SqT.of ht, rfl, _, _, rfl, _, _, rfl, ⟨rfl, ?_⟩⟩
  refine ⟨_, rfl, a, dx, _, rfl, S.at_, rfl, _, rfl, rfl, M, a, n, es, m, dx, ve, vf, vl, st.1, rfl, S, h1, fun e he => ?_⟩
  refine ⟨e, _, rfl, SqT.of he, rfl, _, _, rfl, _, _, rfl, ⟨rfl, ?_⟩⟩
  refine ⟨_, rfl, rfl, _, rfl, ?_⟩
  rcases h2 with h2 | h2
  · refine iteY (by rw [h2]; rfl) ?_
    refine ⟨_, rfl, _, rfl, by show 2 ≤ sizeLine; decide, fun r hr' => k r _ (Same.new hr') hr' ?_⟩
    rw [upd_same]
    unfold sEnds
    rw [if_pos h2]
  · refine iteN (by rw [h2]; rfl) ?_
    refine ⟨_, rfl, _, rfl, by show 2 ≤ sizeLine; decide, fun r hr' => k r _ (Same.new hr') hr' ?_⟩
    rw [upd_same]
    unfold sEnds
    rw [if_neg (by rw [h2]; decide)]
abbrev n_isw : List Str := ["web", "thing", "ends", "step", "one", "other"]
theorem sc_is_walk : FnScope n_isw ["web", "thing"] (defScope s_is_walk) := ⟨rfl, rfl, rfl, by decide +kernel, rfl, by decide +kernel, by decide +kernel⟩
def spIsWalk (K : PySem.W.Frag) : Sp := fun vs H Q _ => vs.length = 2 ∧ ∃ (M : Ms) (a : Addr) (v : V) (n : Nat) (es : List Edge) (m : Int) (dx : Addr) (ve vf vl : V) (wk : Walk), vs = [.ref a, v] ∧ WebAt K M H a n es m dx ve vf vl ∧ es.length ≤ 60 ∧
  Dd M H v (walkD wk) ∧ WalkOk es wk ∧ wk.length ≤ 1000 ∧ ∀ H', Same H H' → Q (.bl true) H'
theorem all_replicate (n : Nat) : (List.replicate n true).all id = true := by
  rw [List.all_eq_true]
  intro x hx
  rw [(List.mem_replicate.mp hx).2]
  rfl
theorem bls_snoc (n : Nat) : (List.replicate n true).map V.bl ++ [V.bl true] = (List.replicate (n + 1) true).map V.bl := by
  rw [← replicate_snoc, List.map_append]; rfl
theorem ok_is_walk (T : Tx K mg) : Gd P w K mg base 5 (ga K "is_walk") ["web", "thing"] (spIsWalk K) := by
  have G1 : Gd P w K mg base 4 (ga K "is_step") ["web", "thing"] (spIsStep K) := (ok_is_step T).mono (by decide)
  have G2 : Gd P w K mg base 4 (ga K "step_ends") ["web", "step"] (spStepEnds K) := ok_step_ends T
  refine gd_of T.f_is_walk sc_is_walk (fun _ _ _ _ _ _ us hl => match us, hl with | [_, _], _ => rfl) (fun _ _ _ _ h => h.1) (fun cdv A outer s H vs Q E hr h => ?_)
  obtain ⟨_, M, a, v, n, es, m, dx, ve, vf, vl, wk, rfl, S, el, hv, wo, wl, k⟩ := h
  have nd := sc_is_walk.nd
  have hu := hr.units
  have S0 : WebAt K no H a n es m dx ve vf vl := S.less fun b h => h.elim
  have hv0 : Dd no H v (walkD wk) := hv.less fun b h => h.elim
  obtain ⟨wa, xs, rfl, hm, hwa, hl, hall, _⟩ := hv0.items stepD wk
  refine ⟨_, pss_cons (ps_if (PW.pt (pw_or (pt_not (pt_val (pe_isi "list" (pv 1) rfl T.n_isinstance rfl T.n_list (by decide +kernel)))) (pw_or1 (pt_cmpR (op_eqD hu) (pv 1) (pe_lst pa_nil) (nomark _))))) (pss_one (ps_ret pe_bl)) pss_nil)
    (pss_cons (ps_if (pt_not (pt_val (pe_callB (cr_all rfl) (by rfl) T.n_all (by decide +kernel) (pa_cons
        (pe_lc (own := [("step", 3)]) (g := gName 3) (tt := tYes) rfl nd (pi_list (pv 1)) (blkOk_by (N := n_isw) (sc := defScope s_is_walk) (by decide +kernel)) (fun _ _ _ _ _ => pg_name (i := 3) nd rfl (Or.inl rfl)) (fun _ _ _ _ _ => pts_nil)
          (fun _ _ _ _ _ => pe_callG G1 hr rfl T.g_is_step (pa_cons (pv 0) (pa_cons (pv 3) pa_nil)))) pa_nil)))) (pss_one (ps_ret pe_bl)) pss_nil)
    (pss_cons (ps_setLc (i := 2) (own := [("step", 3)]) (g := gName 3) (tt := tYes) rfl nd rfl rfl (sw_true rfl rfl rfl (by decide +kernel)) (pi_list (pv 1)) (blkOk_by (N := n_isw) (sc := defScope s_is_walk) (by decide +kernel)) (fun _ _ _ _ _ => pg_name (i := 3) nd rfl (Or.inl rfl)) (fun _ _ _ _ _ => pts_nil)
        (fun _ _ _ _ _ => pe_callG G2 hr rfl T.g_step_ends (pa_cons (pv 0) (pa_cons (pv 3) pa_nil))))
    (pss_one (ps_ret (pe_callB (cr_all rfl) (by rfl) T.n_all (by decide +kernel) (pa_cons
        (pe_lc (own := [("one", 4), ("other", 5)]) (g := gTup K 2 (gCons (gName 4) (gCons (gName 5) gNil))) (tt := tYes) rfl nd (pi_zip (by rfl) T.n_zip (pa_cons (pv 2) (pa_cons (pe_slice sl_list (pv 2) (po_some pe_int) po_none) pa_nil))) (blkOk_by (N := n_isw) (sc := defScope s_is_walk) (by decide +kernel))
          (fun _ _ _ _ _ => pg_tup rfl (pgs_cons (pg_name (i := 4) nd rfl (Or.inl rfl)) (pgs_cons (pg_name (i := 5) nd rfl (Or.inl rfl)) pgs_nil))) (fun _ _ _ _ _ => pts_nil)
          (fun _ _ _ _ _ => pe_cmpR op_eq (pe_ix (r := rIxT K) ix_tup (pv 4) pe_int (fun _ _ => rfl)) (pe_ix (r := rIxT K) ix_tup (pv 5) pe_int (fun _ _ => rfl)) (nomark _))) pa_nil)))))), ?_⟩
  refine ⟨_, rfl, _, _, _, _, true, rfl, .ty _, .base (.lst hwa), kit_ty (by decide +kernel), true, rfl, iteF ?_⟩
  refine ⟨_, rfl, by decide, fun e he => ?_⟩
  have s0 := Same.new (o := .lst []) he
  refine ⟨walkD wk, .list [], (hv0.same s0).dp, .lst (SqL.of upd_same) .nil, (shp_walk wk).shaped (by decide), rfl, _, rfl, iteN ?_ ?_⟩
  · cases wk with
    | nil => exact absurd rfl wo.ne
    | cons s r => rfl
  generalize upd H e (.lst []) = H1 at s0 ⊢
  refine ⟨_, rfl, wa, rfl, ⟨_, SqL.of (s0 _ _ hwa)⟩, fun D hD => lc_it (walk_list (xs := xs)) (fun i H' => Same H1 H' ∧ H' D = some (.lst ((List.replicate i true).map V.bl))) ⟨Same.new hD, upd_same⟩ (fun i H' _ h => SqL.of (h.1 _ _ (s0 _ _ hwa))) ?_ ?_⟩
  · rintro i y H2 H3 hi ⟨s2, h2⟩ ⟨rfl, hy⟩
    obtain ⟨hi', dy⟩ := hall.nth hy (0, 0)
    obtain ⟨t, rfl, ht⟩ := Dd.stp _ dy
    have mem : wk.getD i (0, 0) ∈ wk := by
      have : wk.getD i (0, 0) = wk[i] := by simp [List.getD, List.getElem?_eq_getElem hi']
      rw [this]; exact List.getElem_mem hi'
    have s3 := Same.trans' s0 s2
    refine ⟨rfl, _, rfl, _, rfl, rfl, no, a, t, n, es, m, dx, ve, vf, vl, _, rfl, S0.same s3, el, s3 _ _ ht, wo.st _ mem, ?_⟩
    exact ⟨_, h2, by simp; show _ < 16777216; omega, Same.mut s2 hD, by rw [upd_same, bls_snoc]⟩
  rintro H2 ⟨s2, h2⟩
  refine ⟨D, _, rfl, SqL.of h2, true, by rw [all_replicate], iteF ?_⟩
  have s02 := Same.trans' s0 s2
  refine ⟨_, rfl, wa, rfl, ⟨_, SqL.of (s02 _ _ hwa)⟩, fun F hF => lc_it (walk_list (xs := xs)) (fun i H' => Same H2 H' ∧ ∃ fs, H' F = some (.lst fs) ∧ DdAll (also no F) H' fs (((wk.take i).map (sEnds es)).map edgeD)) ⟨Same.new hF, [], upd_same, .nil⟩ (fun i H' _ h => SqL.of (h.1 _ _ (s02 _ _ hwa))) ?_ ?_⟩
  · rintro i y H3 H4 hi ⟨s3, fs, h3, d3⟩ ⟨rfl, hy⟩
    obtain ⟨hi', dy⟩ := hall.nth hy (0, 0)
    obtain ⟨t, rfl, ht⟩ := Dd.stp _ dy
    have mem : wk.getD i (0, 0) ∈ wk := by
      have : wk.getD i (0, 0) = wk[i] := by simp [List.getD, List.getElem?_eq_getElem hi']
      rw [this]; exact List.getElem_mem hi'
    have s4 := Same.trans' s02 s3
    refine ⟨rfl, _, rfl, _, rfl, rfl, no, a, t, n, es, m, dx, ve, vf, vl, _, rfl, S0.same s4, s4 _ _ ht, wo.st _ mem, fun r H5 s5 nr hr5 => ?_⟩
    have lf := d3.length
    simp only [List.length_map, List.length_take] at lf
    have mo : MOk (also no F) H4 := (mok_no (H := H4)).also h3
    refine ⟨fs, s5 _ _ h3, by show _ < 16777216; omega, Same.mut (Same.trans' s3 s5) hF, _, upd_same, ?_⟩
    rw [take_next wk i (0, 0) hi', List.map_append, List.map_append]
    exact ((d3.same s5).upd (.inr rfl)).append (.cons ((mk_edge (sEnds es (wk.getD i (0, 0))) (mo.new nr) hr5).upd (.inr rfl)) .nil)
  rintro H3 ⟨s3, fs, h3, d3⟩
  rw [hl, List.take_of_length_le (Nat.le_refl _)] at d3
  have lf := d3.length
  simp only [List.length_map] at lf
  refine ⟨_, rfl, _, rfl, 1, rfl, F, fs, rfl, SqL.of h3, fun p hp => ?_⟩
  have ecut : cutV fs (some 1) none = fs.drop 1 := by
    have hne : 1 ≤ fs.length := by
      rw [lf]
      cases wk with
      | nil => exact absurd rfl wo.ne
      | cons s r => simp
    unfold cutV
    have e1 : HT.sIx fs.length 0 (some 1) = 1 := by
      rw [show (some (1 : Int)) = some ((1 : Nat) : Int) from rfl, HT.sIx_nat]; omega
    have e2 : HT.sIx fs.length fs.length none = fs.length := rfl
    rw [e1, e2]
    exact List.take_of_length_le (by simp)
  rw [ecut]
  have s4 := Same.new (o := .lst (fs.drop 1)) hp
  have hp4 : upd H3 p (.lst (fs.drop 1)) p = some (.lst (fs.drop 1)) := upd_same
  generalize upd H3 p (.lst (fs.drop 1)) = H4 at s4 hp4 ⊢
  refine ⟨F, p, fs, fs.drop 1, rfl, SqL.of (s4 _ _ h3), SqL.of hp4, fun D2 hD2 => lc_it (walk_zip (xs := fs) (ys := fs.drop 1) rfl) (fun i H' => Same H4 H' ∧ H' D2 = some (.lst ((List.replicate i true).map V.bl))) ⟨Same.new hD2, upd_same⟩ (fun i H' _ h => ⟨SqL.of (h.1 _ _ (s4 _ _ h3)), SqL.of (h.1 _ _ hp4)⟩) ?_ ?_⟩
  · rintro i y H5 H6 hi ⟨s5, h5⟩ ⟨T0, z1, z2, rfl, hT, rfl, e1, e2⟩
    have e2' : fs[i + 1]? = some z2 := by
      have : (fs.drop 1)[i]? = some z2 := e2
      rw [List.getElem?_drop] at this
      rw [Nat.add_comm]; exact this
    obtain ⟨i1, dz1⟩ := d3.nth e1 (0, 0)
    obtain ⟨i2, dz2⟩ := d3.nth e2' (0, 0)
    obtain ⟨t1, rfl, ht1⟩ := Dd.edge _ dz1
    obtain ⟨t2, rfl, ht2⟩ := Dd.edge _ dz2
    have s6 := Same.new (o := .tup [.ref t1, .ref t2]) hT
    have sA := Same.trans' (Same.trans' s4 s5) s6
    refine ⟨T0, _, rfl, SqT.of upd_same, rfl, _, _, rfl, _, _, rfl, ⟨rfl, rfl, ?_⟩⟩
    refine ⟨_, rfl, _, _, _, _, rfl, rfl, SqT.of (sA _ _ ht1), rfl, ?_⟩
    refine ⟨_, rfl, _, _, _, _, rfl, rfl, SqT.of (sA _ _ ht2), rfl, rfl, ?_⟩
    simp only [List.length_map] at i1 i2
    rw [getD_map _ _ _ (0, 0) _ i1, getD_map _ _ _ (0, 0) _ i2, wo.ch i i2, decide_eq_true rfl]
    exact ⟨_, s6 _ _ h5, by simp; show _ < 16777216; simp at hi; omega, Same.mut (Same.new' s5 hT) hD2, by rw [upd_same, bls_snoc]⟩
  · rintro H5 ⟨s5, h5⟩
    refine ⟨D2, _, rfl, SqL.of h5, ?_⟩
    rw [all_replicate]
    exact k _ (Same.trans' (Same.trans' s02 s3) (Same.trans' s4 s5))
end
end Tt
set_option Elab.async false
set_option linter.all false
set_option maxRecDepth 100000
set_option maxHeartbeats 4000000
/-! residues -/
namespace Tt
open PySem PySem.Spec PyProof.Rows L2 He
def Res (m i : Int) : Prop := m = 0 ∨ (0 ≤ i ∧ i < m)
def ResAll (m : Int) (gs : List Int) : Prop := ∀ i, i ∈ gs → Res m i
theorem red_res {m : Int} (h : 0 ≤ m) (i : Int) : Res m (red i m) := by
  unfold Res red
  by_cases e : 0 < m
  · rw [if_pos e]
    exact .inr ⟨Int.emod_nonneg _ (by omega), Int.emod_lt_of_pos _ e⟩
  · left; omega
theorem emptyT_sq {K : PySem.W.Frag} {H : Hp} {a : Addr} (h : emptyT K a = true) : SqT K H a [] ∧ ∃ o, K.lookup a = some o ∧ o.cls = .type "tuple" := by
  unfold emptyT at h
  split at h
  · rename_i c dd its n sl e
    rw [Bool.and_eq_true] at h
    have hc := of_decide_eq_true h.1
    have hi : its = #[] := Array.isEmpty_iff.mp h.2
    subst hc
    subst hi
    exact ⟨.inr ⟨_, #[], n, e, rfl, rfl, Nat.zero_le _, .nil⟩, _, e, rfl⟩
  · cases h
section
variable {P : Program} {w : World} {K : PySem.W.Frag} {mg : Str → Option Value} {base : Heap}
theorem sc_residue : FnScope ["web", "number"] ["web", "number"] (defScope s_residue) := ⟨rfl, rfl, rfl, by decide +kernel, rfl, by decide +kernel, by decide +kernel⟩
def spResidue (K : PySem.W.Frag) : Sp := fun vs H Q _ => vs.length = 2 ∧ ∃ (M : Ms) (a : Addr) (n : Nat) (es : List Edge) (m : Int) (dx : Addr) (ve vf vl : V) (i : Int), vs = [.ref a, .int i] ∧ WebAt K M H a n es m dx ve vf vl ∧ Q (.int (red i m)) H
theorem ok_residue (T : Tx K mg) : Gd P w K mg base 2 (ga K "residue") ["web", "number"] (spResidue K) := by
  have G1 : Gd P w K mg base 1 (ga K "is_integer") ["thing"] spIsInteger := ok_is_integer T
  have G2 : Gd P w K mg base 1 (ga K "reduced_number") ["number", "modulus"] spReduced := ok_reduced T
  have G3 : Gd P w K mg base 1 (ma K (ga K "Web") "modulus") ["self"] (spWmod K) := ok_wmod T
  refine gd_of T.f_residue sc_residue (fun _ _ _ _ _ _ us hl => match us, hl with | [_, _], _ => rfl) (fun _ _ _ _ h => h.1) (fun cdv A outer s H vs Q E hr h => ?_)
  obtain ⟨_, M, a, n, es, m, dx, ve, vf, vl, i, rfl, S, k⟩ := h
  refine ⟨_, pss_cons (ps_if (pt_not (pt_val (pe_callG G1 hr rfl T.g_is_integer (pa_cons (pv 1) pa_nil)))) pss_never pss_nil)
    (pss_one (ps_ret (pe_callG G2 hr rfl T.g_reduced_number (pa_cons (pv 1) (pa_cons (pe_methG0 (pv 0) T.c_Web T.m_Web_modulus G3 hr) pa_nil))))), ?_⟩
  refine ⟨_, rfl, rfl, i, rfl, true, rfl, iteF ?_⟩
  exact ⟨_, rfl, _, rfl, a, dx, _, rfl, S.at_, rfl, rfl, M, a, n, es, m, dx, ve, vf, vl, rfl, S, rfl, i, m, rfl, k⟩
theorem sc_is_residue : FnScope ["web", "thing"] ["web", "thing"] (defScope s_is_residue) := ⟨rfl, rfl, rfl, by decide +kernel, rfl, by decide +kernel, by decide +kernel⟩
def spIsResidue (K : PySem.W.Frag) : Sp := fun vs H Q _ => vs.length = 2 ∧ ∃ (M : Ms) (a : Addr) (n : Nat) (es : List Edge) (m : Int) (dx : Addr) (ve vf vl : V) (i : Int), vs = [.ref a, .int i] ∧ WebAt K M H a n es m dx ve vf vl ∧ Res m i ∧ Q (.bl true) H
theorem ok_is_residue (T : Tx K mg) : Gd P w K mg base 3 (ga K "is_residue") ["web", "thing"] (spIsResidue K) := by
  have G1 : Gd P w K mg base 2 (ga K "is_integer") ["thing"] spIsInteger := (ok_is_integer T).mono (by decide)
  have G2 : Gd P w K mg base 2 (ga K "is_within") ["thing", "least", "most"] spIsWithin := ok_is_within T
  have G3 : Gd P w K mg base 2 (ma K (ga K "Web") "modulus") ["self"] (spWmod K) := (ok_wmod T).mono (by decide)
  refine gd_of T.f_is_residue sc_is_residue (fun _ _ _ _ _ _ us hl => match us, hl with | [_, _], _ => rfl) (fun _ _ _ _ h => h.1) (fun cdv A outer s H vs Q E hr h => ?_)
  obtain ⟨_, M, a, n, es, m, dx, ve, vf, vl, i, rfl, S, hi, k⟩ := h
  refine ⟨_, pss_cons (ps_if (pt_cmpR op_eq (pe_methG0 (pv 0) T.c_Web T.m_Web_modulus G3 hr) pe_int (nomark _)) (pss_one (ps_ret (pe_callG G1 hr rfl T.g_is_integer (pa_cons (pv 1) pa_nil)))) pss_nil)
    (pss_one (ps_ret (pe_callG G2 hr rfl T.g_is_within (pa_cons (pv 1) (pa_cons pe_int (pa_cons (pe_op op_sub (pe_methG0 (pv 0) T.c_Web T.m_Web_modulus G3 hr) pe_int) pa_nil)))))), ?_⟩
  refine ⟨_, rfl, a, dx, _, rfl, S.at_, rfl, rfl, M, a, n, es, m, dx, ve, vf, vl, rfl, S, rfl, _, rfl, ite2 (fun e => ?_) (fun e => ?_)⟩
  · exact ⟨_, rfl, rfl, i, rfl, k⟩
  · have m0 : m ≠ 0 := fun z => e (by rw [z]; rfl)
    refine ⟨_, rfl, _, rfl, a, dx, _, rfl, S.at_, rfl, rfl, M, a, n, es, m, dx, ve, vf, vl, rfl, S, _, _, rfl, rfl, rfl, _, _, _, rfl, ?_⟩
    have hi' := hi.resolve_left m0
    have e : (decide (0 ≤ i) && decide (i ≤ m - 1)) = true := by simp; omega
    rw [e]
    exact k
abbrev n_are : List Str := ["web", "thing", "count", "one"]
theorem sc_are : FnScope n_are ["web", "thing", "count"] (defScope s_are_residues) := ⟨rfl, rfl, rfl, by decide +kernel, rfl, by decide +kernel, by decide +kernel⟩
def spAre (K : PySem.W.Frag) : Sp := fun vs H Q _ => vs.length = 3 ∧ ∃ (M : Ms) (a : Addr) (n : Nat) (es : List Edge) (m : Int) (dx : Addr) (ve vf vl : V) (g : Addr) (gs : List Int), vs = [.ref a, .ref g, .int (gs.length : Int)] ∧ WebAt K M H a n es m dx ve vf vl ∧ H g = some (.lst (gs.map V.int)) ∧ ResAll m gs ∧ gs.length ≤ 1000 ∧ ∀ H', Same H H' → Q (.bl true) H'
theorem ok_are (T : Tx K mg) : Gd P w K mg base 4 (ga K "are_residues") ["web", "thing", "count"] (spAre K) := by
  have G1 : Gd P w K mg base 3 (ga K "is_residue") ["web", "thing"] (spIsResidue K) := ok_is_residue T
  refine gd_of T.f_are_residues sc_are (fun _ _ _ _ _ _ us hl => match us, hl with | [_, _, _], _ => rfl) (fun _ _ _ _ h => h.1) (fun cdv A outer s H vs Q E hr h => ?_)
  obtain ⟨_, M, a, n, es, m, dx, ve, vf, vl, g, gs, rfl, S, hg, ra, gl, k⟩ := h
  have nd := sc_are.nd
  refine ⟨_, pss_one (ps_ret (pe_and (pe_isi "list" (pv 1) rfl T.n_isinstance rfl T.n_list (by decide +kernel)) (pe_and (pe_cmpR op_eq (pe_len (pv 1) rfl T.n_len) (pv 2) (nomark _)) (pe_one
    (pe_callB (cr_all rfl) (by rfl) T.n_all (by decide +kernel) (pa_cons
        (pe_lc (own := [("one", 3)]) (g := gName 3) (tt := tYes) rfl nd (pi_list (pv 1)) (blkOk_by (N := n_are) (sc := defScope s_are_residues) (by decide +kernel)) (fun _ _ _ _ _ => pg_name (i := 3) nd rfl (Or.inl rfl)) (fun _ _ _ _ _ => pts_nil)
          (fun _ _ _ _ _ => pe_callG G1 hr rfl T.g_is_residue (pa_cons (pv 0) (pa_cons (pv 3) pa_nil)))) pa_nil)))))), ?_⟩
  refine ⟨_, rfl, _, _, _, _, true, rfl, .ty _, .base (.lst hg), kit_ty (by decide +kernel), true, rfl, iteT ?_⟩
  refine ⟨_, rfl, _, _, rfl, .inl (SqL.of hg), _, rfl, rfl, _, rfl, iteY (by rw [List.length_map]; exact decide_eq_true rfl) ?_⟩
  refine ⟨_, rfl, g, rfl, ⟨_, SqL.of hg⟩, fun D hD => lc_it (walk_list (xs := gs.map V.int)) (fun i H' => Same H H' ∧ H' D = some (.lst ((List.replicate i true).map V.bl))) ⟨Same.new hD, upd_same⟩ (fun i H' _ h => SqL.of (h.1 _ _ hg)) ?_ ?_⟩
  · rintro i y H2 H3 hi ⟨s2, h2⟩ ⟨rfl, hy⟩
    obtain ⟨hi', rfl⟩ := ints_get hy
    have mem : gs.getD i 0 ∈ gs := by
      have : gs.getD i 0 = gs[i] := by simp [List.getD, List.getElem?_eq_getElem hi']
      rw [this]; exact List.getElem_mem hi'
    refine ⟨rfl, _, rfl, _, rfl, rfl, M, a, n, es, m, dx, ve, vf, vl, _, rfl, S.same s2, ra _ mem, ?_⟩
    exact ⟨_, h2, by simp; show _ < 16777216; omega, Same.mut s2 hD, by rw [upd_same, bls_snoc]⟩
  · rintro H2 ⟨s2, h2⟩
    refine ⟨D, _, rfl, SqL.of h2, ?_⟩
    rw [all_replicate]
    exact k _ s2
theorem sc_is_gains : FnScope ["web", "thing"] ["web", "thing"] (defScope s_is_gains) := ⟨rfl, rfl, rfl, by decide +kernel, rfl, by decide +kernel, by decide +kernel⟩
def spIsGains (K : PySem.W.Frag) : Sp := fun vs H Q _ => vs.length = 2 ∧ ∃ (M : Ms) (a : Addr) (n : Nat) (es : List Edge) (m : Int) (dx : Addr) (ve vf vl : V) (g : Addr) (gs : List Int), vs = [.ref a, .ref g] ∧ WebAt K M H a n es m dx ve vf vl ∧ H g = some (.lst (gs.map V.int)) ∧ ResAll m gs ∧ gs.length = es.length ∧ gs.length ≤ 1000 ∧ ∀ H', Same H H' → Q (.bl true) H'
theorem ok_is_gains (T : Tx K mg) : Gd P w K mg base 5 (ga K "is_gains") ["web", "thing"] (spIsGains K) := by
  have G1 : Gd P w K mg base 4 (ga K "are_residues") ["web", "thing", "count"] (spAre K) := ok_are T
  refine gd_of T.f_is_gains sc_is_gains (fun _ _ _ _ _ _ us hl => match us, hl with | [_, _], _ => rfl) (fun _ _ _ _ h => h.1) (fun cdv A outer s H vs Q E hr h => ?_)
  obtain ⟨_, M, a, n, es, m, dx, ve, vf, vl, g, gs, rfl, S, hg, ra, ge, gl, k⟩ := h
  refine ⟨_, pss_one (ps_ret (pe_callG G1 hr rfl T.g_are_residues (pa_cons (pv 0) (pa_cons (pv 1) (pa_cons (pe_lenW T (hr.mono (by decide)) (pv 0) rfl) pa_nil))))), ?_⟩
  refine ⟨_, rfl, _, rfl, _, rfl, M, a, n, es, m, dx, ve, vf, vl, rfl, S, by omega, rfl, M, a, n, es, m, dx, ve, vf, vl, g, gs, by rw [ge]; rfl, S, hg, ra, gl, k⟩
theorem sc_is_pot : FnScope ["web", "thing"] ["web", "thing"] (defScope s_is_potential) := ⟨rfl, rfl, rfl, by decide +kernel, rfl, by decide +kernel, by decide +kernel⟩
def spIsPot (K : PySem.W.Frag) : Sp := fun vs H Q _ => vs.length = 2 ∧ ∃ (M : Ms) (a : Addr) (n : Nat) (es : List Edge) (m : Int) (dx : Addr) (ve vf vl : V) (g : Addr) (gs : List Int), vs = [.ref a, .ref g] ∧ WebAt K M H a n es m dx ve vf vl ∧ H g = some (.lst (gs.map V.int)) ∧ ResAll m gs ∧ gs.length = n ∧ gs.length ≤ 1000 ∧ ∀ H', Same H H' → Q (.bl true) H'
theorem ok_is_pot (T : Tx K mg) : Gd P w K mg base 5 (ga K "is_potential") ["web", "thing"] (spIsPot K) := by
  have G1 : Gd P w K mg base 4 (ga K "are_residues") ["web", "thing", "count"] (spAre K) := ok_are T
  have G2 : Gd P w K mg base 4 (ma K (ga K "Web") "size") ["self"] (spWsize K) := (ok_wsize T).mono (by decide)
  refine gd_of T.f_is_potential sc_is_pot (fun _ _ _ _ _ _ us hl => match us, hl with | [_, _], _ => rfl) (fun _ _ _ _ h => h.1) (fun cdv A outer s H vs Q E hr h => ?_)
  obtain ⟨_, M, a, n, es, m, dx, ve, vf, vl, g, gs, rfl, S, hg, ra, ge, gl, k⟩ := h
  refine ⟨_, pss_one (ps_ret (pe_callG G1 hr rfl T.g_are_residues (pa_cons (pv 0) (pa_cons (pv 1) (pa_cons (pe_methG0 (pv 0) T.c_Web T.m_Web_size G2 hr) pa_nil))))), ?_⟩
  refine ⟨_, rfl, _, rfl, _, rfl, a, dx, _, rfl, S.at_, rfl, rfl, M, a, n, es, m, dx, ve, vf, vl, rfl, S, rfl, M, a, n, es, m, dx, ve, vf, vl, g, gs, by rw [ge]; rfl, S, hg, ra, gl, k⟩
theorem sc_chk_gains : FnScope ["web", "gains"] ["web", "gains"] (defScope s_check_gains) := ⟨rfl, rfl, rfl, by decide +kernel, rfl, by decide +kernel, by decide +kernel⟩
def spChkGains (K : PySem.W.Frag) : Sp := fun vs H Q _ => vs.length = 2 ∧ ∃ (M : Ms) (a : Addr) (n : Nat) (es : List Edge) (m : Int) (dx : Addr) (ve vf vl : V) (g : Addr) (gs : List Int), vs = [.ref a, .ref g] ∧ WebAt K M H a n es m dx ve vf vl ∧ H g = some (.lst (gs.map V.int)) ∧ ResAll m gs ∧ gs.length = es.length ∧ gs.length ≤ 1000 ∧ ∀ H', Same H H' → Q .non H'
theorem ok_chk_gains (T : Tx K mg) : Gd P w K mg base 6 (ga K "check_gains") ["web", "gains"] (spChkGains K) := by
  have G1 : Gd P w K mg base 5 (ga K "is_gains") ["web", "thing"] (spIsGains K) := ok_is_gains T
  refine gd_of T.f_check_gains sc_chk_gains (fun _ _ _ _ _ _ us hl => match us, hl with | [_, _], _ => rfl) (fun _ _ _ _ h => h.1) (fun cdv A outer s H vs Q E hr h => ?_)
  obtain ⟨_, M, a, n, es, m, dx, ve, vf, vl, g, gs, rfl, S, hg, ra, ge, gl, k⟩ := h
  refine ⟨_, pss_one (ps_if (pt_not (pt_val (pe_callG G1 hr rfl T.g_is_gains (pa_cons (pv 0) (pa_cons (pv 1) pa_nil))))) pss_never pss_nil), ?_⟩
  exact ⟨_, rfl, _, rfl, rfl, M, a, n, es, m, dx, ve, vf, vl, g, gs, rfl, S, hg, ra, ge, gl, fun H' s' => ⟨true, rfl, iteF (k _ s')⟩⟩
theorem sc_chk_pot : FnScope ["web", "potential"] ["web", "potential"] (defScope s_check_potential) := ⟨rfl, rfl, rfl, by decide +kernel, rfl, by decide +kernel, by decide +kernel⟩
def spChkPot (K : PySem.W.Frag) : Sp := fun vs H Q _ => vs.length = 2 ∧ ∃ (M : Ms) (a : Addr) (n : Nat) (es : List Edge) (m : Int) (dx : Addr) (ve vf vl : V) (g : Addr) (gs : List Int), vs = [.ref a, .ref g] ∧ WebAt K M H a n es m dx ve vf vl ∧ H g = some (.lst (gs.map V.int)) ∧ ResAll m gs ∧ gs.length = n ∧ gs.length ≤ 1000 ∧ ∀ H', Same H H' → Q .non H'
theorem ok_chk_pot (T : Tx K mg) : Gd P w K mg base 6 (ga K "check_potential") ["web", "potential"] (spChkPot K) := by
  have G1 : Gd P w K mg base 5 (ga K "is_potential") ["web", "thing"] (spIsPot K) := ok_is_pot T
  refine gd_of T.f_check_potential sc_chk_pot (fun _ _ _ _ _ _ us hl => match us, hl with | [_, _], _ => rfl) (fun _ _ _ _ h => h.1) (fun cdv A outer s H vs Q E hr h => ?_)
  obtain ⟨_, M, a, n, es, m, dx, ve, vf, vl, g, gs, rfl, S, hg, ra, ge, gl, k⟩ := h
  refine ⟨_, pss_one (ps_if (pt_not (pt_val (pe_callG G1 hr rfl T.g_is_potential (pa_cons (pv 0) (pa_cons (pv 1) pa_nil))))) pss_never pss_nil), ?_⟩
  exact ⟨_, rfl, _, rfl, rfl, M, a, n, es, m, dx, ve, vf, vl, g, gs, rfl, S, hg, ra, ge, gl, fun H' s' => ⟨true, rfl, iteF (k _ s')⟩⟩
abbrev n_fix : List Str := ["web", "fixed", "good", "node"]
theorem sc_chk_fixed : FnScope n_fix ["web", "fixed"] (defScope s_check_fixed) := ⟨rfl, rfl, rfl, by decide +kernel, rfl, by decide +kernel, by decide +kernel⟩
/-- no fixed nodes: an empty list, or the empty tuple that stands as a default -/
def NoFix (K : PySem.W.Frag) (H : Hp) (fx : Addr) : Prop := H fx = some (.lst []) ∨ emptyT K fx = true
def spChkFixed (K : PySem.W.Frag) : Sp := fun vs H Q _ => vs.length = 2 ∧ ∃ (a fx : Addr), vs = [.ref a, .ref fx] ∧ NoFix K H fx ∧ ∀ H', Same H H' → Q .non H'
theorem ok_chk_fixed (T : Tx K mg) : Gd P w K mg base 1 (ga K "check_fixed") ["web", "fixed"] (spChkFixed K) := by
  refine gd_of T.f_check_fixed sc_chk_fixed (fun _ _ _ _ _ _ us hl => match us, hl with | [_, _], _ => rfl) (fun _ _ _ _ h => h.1) (fun cdv A outer s H vs Q E hr h => ?_)
  obtain ⟨_, a, fx, rfl, nf, k⟩ := h
  have nd := sc_chk_fixed.nd
  have tests : ∀ {X : Cx}, True := fun {_} => trivial
  rcases nf with hf | hf
  · refine ⟨_, pss_cons (ps_set (i := 2) nd rfl (Or.inl rfl) (pe_and (pe_callB call_isiT (by rfl) T.n_isinstance (by decide +kernel) (pa_cons (pv 1) (pa_cons (pe_tup (pa_cons (pe_bltn (v := .ty "list") (u := .type "list") rfl T.n_list (by decide +kernel) rfl) (pa_cons (pe_bltn (v := .ty "tuple") (u := .type "tuple") rfl T.n_tuple (by decide +kernel) rfl) pa_nil))) pa_nil))) (pe_one
      (pe_callB (cr_all rfl) (by rfl) T.n_all (by decide +kernel) (pa_cons
        (pe_lc (own := [("node", 3)]) (g := gName 3) (tt := tYes) rfl nd (pi_list (pv 1)) (blkOk_by (N := n_fix) (sc := defScope s_check_fixed) (by decide +kernel)) (fun _ _ _ _ _ => pg_name (i := 3) nd rfl (Or.inl rfl)) (fun _ _ _ _ _ => pts_nil)
          (fun _ _ _ _ _ => pe_no)) pa_nil)))))
      (pss_one (ps_if (PW.pt (pw_or (pt_not (pt_val (pv 2))) (pw_or1 (pt_cmpR op_ne (pe_len (pv 1) rfl T.n_len) (pe_lenSet rfl rfl T.n_len rfl T.n_set (pv 1)) (nomark _))))) pss_never pss_nil)), ?_⟩
    refine ⟨_, rfl, (by show 2 ≤ sizeLine; decide), fun q hq => ?_⟩
    have s1 : Same H (upd H q (.tup [.ty "list", .ty "tuple"])) := Same.new hq
    refine ⟨_, _, _, _, _, true, rfl, upd_same, .cons (.ty _) (.cons (.ty _) .nil), .base (.lst (s1 _ _ hf)), kitAny_cons (b := true) (kit_ty (by decide +kernel)) (fun z => by cases z) (fun _ => rfl), true, rfl, iteT ?_⟩
    refine ⟨_, rfl, fx, rfl, ⟨_, SqL.of (s1 _ _ hf)⟩, fun D hD => lc_it (walk_list (K := K) (xs := [])) (fun i H' => H' = upd (upd H q (.tup [.ty "list", .ty "tuple"])) D (.lst [])) rfl (fun i H' _ h => by rw [h]; exact SqL.of (Same.new hD _ _ (s1 _ _ hf))) (fun i x H _ hi => absurd hi (Nat.not_lt_zero _)) ?_⟩
    rintro H2 rfl
    have s2 := Same.new' (o := .lst []) s1 hD
    refine ⟨D, [], rfl, SqL.of upd_same, ?_⟩
    refine ⟨_, rfl, true, rfl, iteF ?_⟩
    refine ⟨_, rfl, _, _, rfl, .inl (SqL.of (s2 _ _ hf)), _, rfl, fx, [], rfl, .inl (SqL.of (s2 _ _ hf)), Nat.zero_le _, rfl, _, rfl, iteN rfl (k _ s2)⟩
  · obtain ⟨sq, o, lk, oc⟩ := emptyT_sq (H := H) hf
    have sqH : ∀ H', SqT K H' fx [] := fun H' => (emptyT_sq hf).1
    refine ⟨_, pss_cons (ps_set (i := 2) nd rfl (Or.inl rfl) (pe_and (pe_callB call_isiT (by rfl) T.n_isinstance (by decide +kernel) (pa_cons (pv 1) (pa_cons (pe_tup (pa_cons (pe_bltn (v := .ty "list") (u := .type "list") rfl T.n_list (by decide +kernel) rfl) (pa_cons (pe_bltn (v := .ty "tuple") (u := .type "tuple") rfl T.n_tuple (by decide +kernel) rfl) pa_nil))) pa_nil))) (pe_one
      (pe_callB (cr_all rfl) (by rfl) T.n_all (by decide +kernel) (pa_cons
        (pe_lc (own := [("node", 3)]) (g := gName 3) (tt := tYes) rfl nd (pi_tup (pv 1)) (blkOk_by (N := n_fix) (sc := defScope s_check_fixed) (by decide +kernel)) (fun _ _ _ _ _ => pg_name (i := 3) nd rfl (Or.inl rfl)) (fun _ _ _ _ _ => pts_nil)
          (fun _ _ _ _ _ => pe_no)) pa_nil)))))
      (pss_one (ps_if (PW.pt (pw_or (pt_not (pt_val (pv 2))) (pw_or1 (pt_cmpR op_ne (pe_len (pv 1) rfl T.n_len) (pe_lenSet rfl rfl T.n_len rfl T.n_set (pv 1)) (nomark _))))) pss_never pss_nil)), ?_⟩
    refine ⟨_, rfl, (by show 2 ≤ sizeLine; decide), fun q hq => ?_⟩
    have s1 : Same H (upd H q (.tup [.ty "list", .ty "tuple"])) := Same.new hq
    refine ⟨_, _, _, _, _, true, rfl, upd_same, .cons (.ty _) (.cons (.ty _) .nil), .kTuple lk oc, kitAny_cons (b := false) (kit_ty (by decide +kernel)) (fun _ => kitAny_cons (b := true) (kit_ty (by decide +kernel)) (fun z => by cases z) (fun _ => rfl)) (fun z => by cases z), true, rfl, iteT ?_⟩
    refine ⟨_, rfl, fx, rfl, ⟨_, sqH _⟩, fun D hD => lc_it (walk_tup (K := K) (xs := [])) (fun i H' => H' = upd (upd H q (.tup [.ty "list", .ty "tuple"])) D (.lst [])) rfl (fun i H' _ h => sqH _) (fun i x H _ hi => absurd hi (Nat.not_lt_zero _)) ?_⟩
    rintro H2 rfl
    have s2 := Same.new' (o := .lst []) s1 hD
    refine ⟨D, [], rfl, SqL.of upd_same, ?_⟩
    refine ⟨_, rfl, true, rfl, iteF ?_⟩
    refine ⟨_, rfl, _, _, rfl, .inr (sqH _), _, rfl, fx, [], rfl, .inr (sqH _), Nat.zero_le _, rfl, _, rfl, iteN rfl (k _ s2)⟩
end
end Tt
set_option Elab.async false
set_option linter.all false
set_option maxRecDepth 100000
set_option maxHeartbeats 4000000
/-! residues: walk_sum; switching: switched; equivalence: cycle_sums, leads, is_transform -/
namespace Tt
open PySem PySem.Spec PyProof.Rows L2 He
theorem getD_mem {α : Type} {l : List α} {i : Nat} {d : α} (h : i < l.length) : l.getD i d ∈ l := by
  have : l.getD i d = l[i] := by simp [List.getD, List.getElem?_eq_getElem h]
  rw [this]; exact List.getElem_mem h
def gsum (gs : List Int) (w : Walk) : Int := (w.map fun s => s.2 * gs.getD s.1 0).sum
def sw1 (es : List Edge) (m : Int) (gs p : List Int) (i : Nat) : Int := red (gs.getD i 0 + p.getD (es.getD i (0, 0)).1 0 - p.getD (es.getD i (0, 0)).2 0) m
def swl (es : List Edge) (m : Int) (gs p : List Int) (k : Nat) : List Int := (List.range k).map (sw1 es m gs p)
theorem swl_succ {es : List Edge} {m : Int} {gs p : List Int} {k : Nat} : swl es m gs p (k + 1) = swl es m gs p k ++ [sw1 es m gs p k] := by
  unfold swl
  rw [List.range_succ, List.map_append]; rfl
theorem swl_len {es : List Edge} {m : Int} {gs p : List Int} {k : Nat} : (swl es m gs p k).length = k := by simp [swl]
def csums (n : Nat) (es : List Edge) (m : Int) (gs : List Int) : List Int := (cycles n es).map fun w => red (gsum gs w) m
theorem along_len {n : Nat} {es : List Edge} (he : EdgesIn n es) {s x : Nat} (hs : s < n) (hx : Sk n es s x) : (pget (walkPaths (lnk n es) s) x).length < n := by
  have hd : s < (lnk n es).length := by rw [lnk_len]; exact hs
  have h1 : (pget (walkPaths (lnk n es) s) x).length < (walkPaths (lnk n es) s).length := bfs_len (lnk_in he) hd (lnk n es).length _ (pget_mem (phas_iff.mpr hx))
  have h2 := (walkPaths_inv (lnk_in he) hd).few
  rw [lnk_len] at h2
  omega
theorem cycles_short {n : Nat} {es : List Edge} (he : EdgesIn n es) {w : Walk} (h : w ∈ cycles n es) : w.length ≤ n := by
  obtain ⟨i, hi, rfl⟩ := List.mem_map.mp h
  have il := List.mem_range.mp (List.mem_filter.mp hi).1
  have := along_len he (he i il).2 (sk_head he il)
  show _ + 1 ≤ n
  omega
section
variable {P : Program} {w : World} {K : PySem.W.Frag} {mg : Str → Option Value} {base : Heap}
abbrev n_wsum : List Str := ["web", "gains", "walk", "number", "way"]
theorem sc_wsum : FnScope n_wsum ["web", "gains", "walk"] (defScope s_walk_sum) := ⟨rfl, rfl, rfl, by decide +kernel, rfl, by decide +kernel, by decide +kernel⟩
def spWsum (K : PySem.W.Frag) : Sp := fun vs H Q _ => vs.length = 3 ∧ ∃ (M : Ms) (a : Addr) (n : Nat) (es : List Edge) (m : Int) (dx : Addr) (ve vf vl : V) (g : Addr) (gs : List Int) (v : V) (wk : Walk), vs = [.ref a, .ref g, v] ∧ WebAt K M H a n es m dx ve vf vl ∧ es.length ≤ 60 ∧
  H g = some (.lst (gs.map V.int)) ∧ ResAll m gs ∧ gs.length = es.length ∧ Dd M H v (walkD wk) ∧ WalkOk es wk ∧ wk.length ≤ 1000 ∧ ∀ H', Same H H' → Q (.int (red (gsum gs wk) m)) H'
theorem ok_wsum (T : Tx K mg) : Gd P w K mg base 7 (ga K "walk_sum") ["web", "gains", "walk"] (spWsum K) := by
  have G1 : Gd P w K mg base 6 (ga K "check_gains") ["web", "gains"] (spChkGains K) := ok_chk_gains T
  have G2 : Gd P w K mg base 6 (ga K "is_walk") ["web", "thing"] (spIsWalk K) := (ok_is_walk T).mono (by decide)
  have G3 : Gd P w K mg base 6 (ga K "residue") ["web", "number"] (spResidue K) := (ok_residue T).mono (by decide)
  refine gd_of T.f_walk_sum sc_wsum (fun _ _ _ _ _ _ us hl => match us, hl with | [_, _, _], _ => rfl) (fun _ _ _ _ h => h.1) (fun cdv A outer s H vs Q E hr h => ?_)
  obtain ⟨_, M, a, n, es, m, dx, ve, vf, vl, g, gs, v, wk, rfl, S, el, hg, ra, ge, hv, wo, wl, k⟩ := h
  have nd := sc_wsum.nd
  refine ⟨_, pss_cons (ps_expr (pe_callG G1 hr rfl T.g_check_gains (pa_cons (pv 0) (pa_cons (pv 1) pa_nil))))
    (pss_cons (ps_if (pt_not (pt_val (pe_callG G2 hr rfl T.g_is_walk (pa_cons (pv 0) (pa_cons (pv 2) pa_nil))))) pss_never pss_nil)
    (pss_one (ps_ret (pe_callG G3 hr rfl T.g_residue (pa_cons (pv 0) (pa_cons (pe_callB (cr_sum rfl) (by rfl) T.n_sum (by decide +kernel) (pa_cons
      (pe_lc (own := [("number", 3), ("way", 4)]) (g := gTup K 2 (gCons (gName 3) (gCons (gName 4) gNil))) (tt := tYes) rfl nd (pi_list (pv 2)) (blkOk_by (N := n_wsum) (sc := defScope s_walk_sum) (by decide +kernel))
        (fun _ _ _ _ _ => pg_tup rfl (pgs_cons (pg_name (i := 3) nd rfl (Or.inl rfl)) (pgs_cons (pg_name (i := 4) nd rfl (Or.inl rfl)) pgs_nil))) (fun _ _ _ _ _ => pts_nil)
        (fun _ _ _ _ _ => pe_op op_mul (pv 4) (pe_ix (r := rIxL K) ix_list (pv 1) (pv 3) (fun _ _ => rfl)))) pa_nil)) pa_nil)))))), ?_⟩
  refine ⟨_, rfl, _, rfl, rfl, M, a, n, es, m, dx, ve, vf, vl, g, gs, rfl, S, hg, ra, ge, by omega, fun H1 s1 => ?_⟩
  refine ⟨_, rfl, _, rfl, rfl, M, a, v, n, es, m, dx, ve, vf, vl, wk, rfl, S.same s1, el, hv.same s1, wo, wl, fun H2 s2 => ⟨true, rfl, iteF ?_⟩⟩
  have s12 := Same.trans' s1 s2
  obtain ⟨wa, xs, rfl, hm, hwa, hl, hall, _⟩ := (hv.same s12).items stepD wk
  have hg2 := s12 _ _ hg
  refine ⟨_, rfl, _, rfl, wa, rfl, ⟨_, SqL.of hwa⟩, fun D hD => lc_it (walk_list (xs := xs)) (fun q H' => Same H2 H' ∧ H' D = some (.lst (((wk.take q).map fun s => s.2 * gs.getD s.1 0).map V.int))) ⟨Same.new hD, upd_same⟩ (fun i H' _ h => SqL.of (h.1 _ _ hwa)) ?_ ?_⟩
  · rintro q x H3 H4 hq ⟨s3, hD3⟩ ⟨rfl, hx⟩
    obtain ⟨hq', dx'⟩ := hall.nth hx (0, 0)
    obtain ⟨t, rfl, ht⟩ := Dd.stp _ dx'
    obtain ⟨il, iw⟩ := wo.st _ (getD_mem hq')
    have e9 : ((wk.take (q + 1)).map fun s => s.2 * gs.getD s.1 0) = ((wk.take q).map fun s => s.2 * gs.getD s.1 0) ++ [(wk.getD q (0, 0)).2 * gs.getD (wk.getD q (0, 0)).1 0] := by
      rw [take_next wk q (0, 0) hq', List.map_append]; rfl
    refine ⟨t, _, rfl, SqT.of (s3 _ _ ht), rfl, _, _, rfl, _, _, rfl, ⟨rfl, rfl, ?_⟩⟩
    refine ⟨_, rfl, _, rfl, _, rfl, g, _, _, _, rfl, rfl, SqL.of (s3 _ _ hg2), ints_at (i := (wk.getD q (0, 0)).1) (by rw [ge]; exact il), _, _, rfl, rfl, .inl (by rcases iw with e | e <;> rw [e] <;> exact ⟨by decide, by decide⟩), ?_⟩
    exact ⟨_, hD3, by simp; show _ < 16777216; omega, Same.mut s3 hD, by rw [upd_same, ints_snoc, e9]⟩
  · rintro H3 ⟨s3, hD3⟩
    rw [hl, List.take_of_length_le (Nat.le_refl _)] at hD3
    refine ⟨D, _, rfl, SqL.of hD3, rfl, M, a, n, es, m, dx, ve, vf, vl, _, rfl, S.same (Same.trans' s12 s3), k _ (Same.trans' s12 s3)⟩
abbrev n_swi : List Str := ["web", "gains", "potential", "found", "gain", "tail", "head"]
theorem sc_swi : FnScope n_swi ["web", "gains", "potential"] (defScope s_switched) := ⟨rfl, rfl, rfl, by decide +kernel, rfl, by decide +kernel, by decide +kernel⟩
def spSwi (K : PySem.W.Frag) : Sp := fun vs H Q _ => vs.length = 3 ∧ ∃ (M : Ms) (a : Addr) (n : Nat) (es : List Edge) (m : Int) (dx : Addr) (ve vf vl : V) (g p : Addr) (gs ps : List Int), vs = [.ref a, .ref g, .ref p] ∧ MOk M H ∧ WebAt K M H a n es m dx ve vf vl ∧ WebOk n es m ∧
  H g = some (.lst (gs.map V.int)) ∧ ResAll m gs ∧ gs.length = es.length ∧ H p = some (.lst (ps.map V.int)) ∧ ResAll m ps ∧ ps.length = n ∧ ∀ r H', Same H H' → H r = none → H' r = some (.lst ((swl es m gs ps es.length).map V.int)) → Q (.ref r) H'
theorem ok_swi (T : Tx K mg) : Gd P w K mg base 7 (ga K "switched") ["web", "gains", "potential"] (spSwi K) := by
  have G1 : Gd P w K mg base 6 (ga K "check_gains") ["web", "gains"] (spChkGains K) := ok_chk_gains T
  have G2 : Gd P w K mg base 6 (ga K "check_potential") ["web", "potential"] (spChkPot K) := ok_chk_pot T
  have G3 : Gd P w K mg base 6 (ga K "residue") ["web", "number"] (spResidue K) := (ok_residue T).mono (by decide)
  have G4 : Gd P w K mg base 6 (ma K (ga K "Web") "edges") ["self"] (spWedges K) := (ok_wedges T).mono (by decide)
  refine gd_of T.f_switched sc_swi (fun _ _ _ _ _ _ us hl => match us, hl with | [_, _, _], _ => rfl) (fun _ _ _ _ h => h.1) (fun cdv A outer s H vs Q E hr h => ?_)
  obtain ⟨_, M, a, n, es, m, dx, ve, vf, vl, g, p, gs, ps, rfl, mok, S, O, hg, ra, ge, hp, rp, pe, k⟩ := h
  have nd := sc_swi.nd
  refine ⟨_, pss_cons (ps_expr (pe_callG G1 hr rfl T.g_check_gains (pa_cons (pv 0) (pa_cons (pv 1) pa_nil))))
    (pss_cons (ps_expr (pe_callG G2 hr rfl T.g_check_potential (pa_cons (pv 0) (pa_cons (pv 2) pa_nil))))
    (pss_cons (ps_set (i := 3) nd rfl (Or.inl rfl) (pe_lst pa_nil))
    (pss_cons (ps_for PassesOwn.never rfl (pi_zip (by rfl) T.n_zip (pa_cons (pv 1) (pa_cons (pe_methG0 (pv 0) T.c_Web T.m_Web_edges G4 hr) pa_nil)))
      (pg_tup rfl (pgs_cons (pg_name (i := 4) nd rfl (Or.inl rfl)) (pgs_cons (pg_tup rfl (pgs_cons (pg_name (i := 5) nd rfl (Or.inl rfl)) (pgs_cons (pg_name (i := 6) nd rfl (Or.inl rfl)) pgs_nil))) pgs_nil)))
      (pss_one (ps_expr (pe_bm PySem.F.plainAttrs_list PySem.F.slot_list_append PySem.F.type_list_append mt_append (pv 3) (pa_cons
        (pe_callG G3 hr rfl T.g_residue (pa_cons (pv 0) (pa_cons (pe_op op_sub (pe_op op_add (pv 4) (pe_ix ix_list (pv 2) (pv 5) (fun _ _ => rfl))) (pe_ix ix_list (pv 2) (pv 6) (fun _ _ => rfl))) pa_nil))) pa_nil)))))
    (pss_one (ps_ret (pv 3)))))), ?_⟩
  have o1 := O.l
  have o2 := O.n30
  refine ⟨_, rfl, _, rfl, rfl, M, a, n, es, m, dx, ve, vf, vl, g, gs, rfl, S, hg, ra, ge, by omega, fun H1 s1 => ?_⟩
  refine ⟨_, rfl, _, rfl, rfl, M, a, n, es, m, dx, ve, vf, vl, p, ps, rfl, S.same s1, s1 _ _ hp, rp, pe, by omega, fun H2 s2 => ?_⟩
  have s12 := Same.trans' s1 s2
  refine ⟨by decide, fun F hF => ?_⟩
  have s3 := Same.new' (o := .lst []) s12 hF
  have hF0 := Same.back s12 hF
  have mo3 : MOk (also M F) (upd H2 F (.lst [])) := (mok.same s3).also upd_same
  have S3 := (S.also hF0).same s3
  refine ⟨_, rfl, _, rfl, a, dx, _, rfl, S3.at_, rfl, rfl, also M F, a, n, es, m, dx, ve, vf, vl, rfl, mo3, S3, fun r H4 s4 dE => ?_⟩
  obtain ⟨ea, xs, rfl, hm, hea, hl, hall, _⟩ := dE.items edgeD es
  have hF4 := s4 _ _ (show upd H2 F (.lst []) F = some (.lst []) from upd_same)
  have s34 := Same.trans' s3 s4
  have neF : ea ≠ F := fun z => hm (.inr z)
  refine ⟨g, ea, gs.map V.int, xs, rfl, SqL.of (s34 _ _ hg), SqL.of hea, for_it (walk_zip (n := es.length) (xs := gs.map V.int) (ys := xs) (by rw [List.length_map]; omega)) (fun i σ H' => ∃ (x4 x5 x6 : Option V), σ = [some (.ref a), some (.ref g), some (.ref p), some (.ref F), x4, x5, x6] ∧ Sx F H4 H' ∧
    H' F = some (.lst ((swl es m gs ps i).map V.int))) ⟨_, _, _, rfl, Sx.refl ⟨_, hF4⟩, hF4⟩ (fun i σ H' _ ⟨_, _, _, _, sx, _⟩ => ⟨SqL.of (sx.1 _ _ (fun z => by rw [z, hF0] at hg; cases hg) (s34 _ _ hg)), SqL.of (sx.1 _ _ neF hea)⟩) ?_ ?_⟩
  · rintro i x σ H5 H6 hi ⟨x4, x5, x6, rfl, sx, hF5⟩ ⟨T0, z1, z2, rfl, hT, rfl, e1, e2⟩
    obtain ⟨_, rfl⟩ := ints_get e1
    obtain ⟨hi', dy⟩ := hall.nth e2 (0, 0)
    obtain ⟨t, rfl, ht⟩ := Dd.edge _ (dy.sx sx (.inr rfl))
    have sT := Same.new (o := .tup [.int (gs.getD i 0), .ref t]) hT
    have sH : ∀ b o, H b = some o → upd H5 T0 (.tup [.int (gs.getD i 0), .ref t]) b = some o := fun b o e => sT _ _ (sx.1 b o (fun z => by rw [z, hF0] at e; cases e) (s34 _ _ e))
    have SW : WebAt K (also M F) (upd H5 T0 (.tup [.int (gs.getD i 0), .ref t])) a n es m dx ve vf vl := by
      have S4 := S3.same s4
      exact ⟨sH _ _ S.at_, (S4.e.sx sx (.inr rfl)).same sT, (S4.f.sx sx (.inr rfl)).same sT, (S4.l.sx sx (.inr rfl)).same sT⟩
    have hF6 := sT _ _ hF5
    have sx6 := sx.same sT
    refine ⟨T0, _, rfl, SqT.of upd_same, rfl, _, _, rfl, _, _, rfl, ⟨t, _, rfl, SqT.of (sT _ _ ht), rfl, _, _, rfl, _, _, rfl, rfl, rfl, ?_⟩⟩
    have hp6 := sH _ _ hp
    obtain ⟨b1, b2⟩ := O.e i hi'
    refine ⟨_, rfl, .inl ⟨rfl, _, SqL.of hF6⟩, _, rfl, _, rfl, _, rfl, _, rfl, p, _, _, _, rfl, rfl, SqL.of hp6, ints_at (by omega), _, _, rfl, rfl, ?_⟩
    refine ⟨_, rfl, _, rfl, p, _, _, _, rfl, rfl, SqL.of hp6, ints_at (by omega), _, _, rfl, rfl, rfl, also M F, a, n, es, m, dx, ve, vf, vl, _, rfl, SW, ?_⟩
    refine ⟨F, _, _, rfl, rfl, hF6, by rw [List.length_map, swl_len]; show _ < 16777216; omega, _, _, _, rfl, sx6.upd, ?_⟩
    rw [upd_same, swl_succ, ints_snoc]
    rfl
  · rintro σ H5 ⟨x4, x5, x6, rfl, sx, hF5⟩
    exact ⟨_, rfl, k F _ (fun b o e => sx.1 b o (fun z => by rw [z, hF0] at e; cases e) (s34 _ _ e)) hF0 hF5⟩
abbrev n_csum : List Str := ["web", "gains", "cycle"]
theorem sc_csum : FnScope n_csum ["web", "gains"] (defScope s_cycle_sums_equivalence) := ⟨rfl, rfl, rfl, by decide +kernel, rfl, by decide +kernel, by decide +kernel⟩
def spCsum (K : PySem.W.Frag) : Sp := fun vs H Q _ => vs.length = 2 ∧ ∃ (M : Ms) (a : Addr) (n : Nat) (es : List Edge) (m : Int) (dx : Addr) (ve vf vl : V) (g : Addr) (gs : List Int), vs = [.ref a, .ref g] ∧ MOk M H ∧ WebAt K M H a n es m dx ve vf vl ∧ WebOk n es m ∧
  H g = some (.lst (gs.map V.int)) ∧ ResAll m gs ∧ gs.length = es.length ∧ ∀ r H', Same H H' → H r = none → H' r = some (.lst ((csums n es m gs).map V.int)) → Q (.ref r) H'
theorem ok_csum (T : Tx K mg) : Gd P w K mg base 8 (ga K "cycle_sums_equivalence") ["web", "gains"] (spCsum K) := by
  have G1 : Gd P w K mg base 7 (ga K "check_gains") ["web", "gains"] (spChkGains K) := (ok_chk_gains T).mono (by decide)
  have G2 : Gd P w K mg base 7 (ga K "walk_sum") ["web", "gains", "walk"] (spWsum K) := ok_wsum T
  have G3 : Gd P w K mg base 7 (ma K (ga K "Web") "cycles") ["self"] (spCycles K) := (ok_cycles T).mono (by decide)
  refine gd_of T.f_cycle_sums_equivalence sc_csum (fun _ _ _ _ _ _ us hl => match us, hl with | [_, _], _ => rfl) (fun _ _ _ _ h => h.1) (fun cdv A outer s H vs Q E hr h => ?_)
  obtain ⟨_, M, a, n, es, m, dx, ve, vf, vl, g, gs, rfl, mok, S, O, hg, ra, ge, k⟩ := h
  have nd := sc_csum.nd
  refine ⟨_, pss_cons (ps_expr (pe_callG G1 hr rfl T.g_check_gains (pa_cons (pv 0) (pa_cons (pv 1) pa_nil))))
    (pss_one (ps_ret (pe_lc (own := [("cycle", 2)]) (g := gName 2) (tt := tYes) rfl nd (pi_list (pe_methG0 (pv 0) T.c_Web T.m_Web_cycles G3 hr)) (blkOk_by (N := n_csum) (sc := defScope s_cycle_sums_equivalence) (by decide +kernel))
      (fun _ _ _ _ _ => pg_name (i := 2) nd rfl (Or.inl rfl)) (fun _ _ _ _ _ => pts_nil) (fun _ _ _ _ _ => pe_callG G2 hr rfl T.g_walk_sum (pa_cons (pv 0) (pa_cons (pv 1) (pa_cons (pv 2) pa_nil))))))), ?_⟩
  have o1 := O.l
  have o2 := O.n30
  refine ⟨_, rfl, _, rfl, rfl, M, a, n, es, m, dx, ve, vf, vl, g, gs, rfl, S, hg, ra, ge, by omega, fun H1 s1 => ?_⟩
  refine ⟨_, rfl, a, dx, _, rfl, s1 _ _ S.at_, rfl, rfl, M, a, n, es, m, dx, ve, vf, vl, rfl, mok.same s1, S.same s1, O, fun r H2 s2 dC => ?_⟩
  obtain ⟨ca, xs, rfl, hm, hca, hl, hall, _⟩ := dC.items walkD (cycles n es)
  have s12 := Same.trans' s1 s2
  refine ⟨ca, rfl, ⟨_, SqL.of hca⟩, fun D hD => lc_it (walk_list (xs := xs)) (fun q H' => Same H2 H' ∧ H' D = some (.lst ((((cycles n es).take q).map fun w => red (gsum gs w) m).map V.int))) ⟨Same.new hD, upd_same⟩ (fun i H' _ h => SqL.of (h.1 _ _ hca)) ?_ ?_⟩
  · rintro q x H3 H4 hq ⟨s3, hD3⟩ ⟨rfl, hx⟩
    obtain ⟨hq', dx'⟩ := hall.nth hx []
    have sA := Same.trans' s12 s3
    have mem : (cycles n es).getD q [] ∈ cycles n es := getD_mem hq'
    have := cycles_short O.e mem
    have cl := cycs_len (n := n) (es := es) es.length
    have cl' : (cycles n es).length ≤ es.length := cl
    refine ⟨rfl, _, rfl, _, rfl, _, rfl, rfl, M, a, n, es, m, dx, ve, vf, vl, g, gs, x, _, rfl, S.same sA, o1, sA _ _ hg, ra, ge, dx'.same s3, cycles_ok O.e mem, by omega, fun H5 s5 => ?_⟩
    have e9 : (((cycles n es).take (q + 1)).map fun w => red (gsum gs w) m) = (((cycles n es).take q).map fun w => red (gsum gs w) m) ++ [red (gsum gs ((cycles n es).getD q [])) m] := by
      rw [take_next _ q [] hq', List.map_append]; rfl
    exact ⟨_, s5 _ _ hD3, by simp; show _ < 16777216; omega, Same.mut (Same.trans' s3 s5) hD, by rw [upd_same, ints_snoc, e9]⟩
  · rintro H3 ⟨s3, hD3⟩
    rw [hl, List.take_of_length_le (Nat.le_refl _)] at hD3
    exact k D _ (Same.trans' s12 s3) (Same.back s12 hD) hD3
end
end Tt
set_option Elab.async false
set_option linter.all false
set_option maxRecDepth 100000
set_option maxHeartbeats 4000000
/-! equivalence: difference_rows, system_of, transform, leads, is_transform -/
namespace Tt
open PySem PySem.Spec PyProof.Rows L2 He
def row1 (es : List Edge) (b a : List Int) (i : Nat) : Row := ((es.getD i (0, 0)).1, (es.getD i (0, 0)).2, a.getD i 0 - b.getD i 0)
def rowsK (es : List Edge) (b a : List Int) (k : Nat) : List Row := (List.range k).map (row1 es b a)
def rowsOf (es : List Edge) (b a : List Int) : List Row := rowsK es b a es.length
theorem rowsK_succ {es : List Edge} {b a : List Int} {k : Nat} : rowsK es b a (k + 1) = rowsK es b a k ++ [row1 es b a k] := by
  unfold rowsK
  rw [List.range_succ, List.map_append]; rfl
theorem rowsK_len {es : List Edge} {b a : List Int} {k : Nat} : (rowsK es b a k).length = k := by simp [rowsK]
theorem rowsOf_len {es : List Edge} {b a : List Int} : (rowsOf es b a).length = es.length := rowsK_len
theorem rowsOf_get {es : List Edge} {b a : List Int} {i : Nat} (h : i < es.length) : (rowsOf es b a).getD i (0, 0, 0) = row1 es b a i := by
  have : i < (List.range es.length).length := by simpa using h
  unfold rowsOf rowsK
  rw [getD_map (row1 es b a) _ i 0 _ this]
  congr 1
  simp [List.getD, List.getElem?_range h]
theorem ends_rows {es : List Edge} {b a : List Int} : ends (rowsOf es b a) = es := by
  unfold ends rowsOf rowsK
  rw [List.map_map]
  refine List.ext_getElem (by simp) fun i h1 h2 => ?_
  simp [row1, List.getD, List.getElem?_eq_getElem h2]
theorem Dd.no {M : Ms} {H : Hp} {v : V} {d : PyData} (h : Dd M H v d) : Dd no H v d := h.less fun _ z => z.elim
section
variable {P : Program} {w : World} {K : PySem.W.Frag} {mg : Str → Option Value} {base : Heap}
abbrev n_diff : List Str := ["web", "before", "after", "numbers", "edges", "number"]
theorem sc_diff : FnScope n_diff ["web", "before", "after", "numbers"] (defScope s_difference_rows) := ⟨rfl, rfl, rfl, by decide +kernel, rfl, by decide +kernel, by decide +kernel⟩
def spDiff (K : PySem.W.Frag) : Sp := fun vs H Q _ => vs.length = 4 ∧ ∃ (a : Addr) (n : Nat) (es : List Edge) (m : Int) (dx : Addr) (ve vf vl : V) (b c q : Addr) (bs as : List Int), vs = [.ref a, .ref b, .ref c, .ref q] ∧ WebAt K no H a n es m dx ve vf vl ∧ WebOk n es m ∧
  H b = some (.lst (bs.map V.int)) ∧ bs.length = es.length ∧ H c = some (.lst (as.map V.int)) ∧ as.length = es.length ∧ H q = some (.lst (nvs (List.range es.length))) ∧
  ∀ r H', Same H H' → Dd no H' r (rowsD (rowsOf es bs as)) → Q r H'
theorem ok_diff (T : Tx K mg) : Gd P w K mg base 2 (ga K "difference_rows") ["web", "before", "after", "numbers"] (spDiff K) := by
  have G1 : Gd P w K mg base 1 (ma K (ga K "Web") "edges") ["self"] (spWedges K) := ok_wedges T
  refine gd_of T.f_difference_rows sc_diff (fun _ _ _ _ _ _ us hl => match us, hl with | [_, _, _, _], _ => rfl) (fun _ _ _ _ h => h.1) (fun cdv A outer s H vs Q E hr h => ?_)
  obtain ⟨_, a, n, es, m, dx, ve, vf, vl, b, c, q, bs, as, rfl, S, O, hb, be, hc, ce, hq, k⟩ := h
  have nd := sc_diff.nd
  refine ⟨_, pss_cons (ps_set (i := 4) nd rfl (Or.inr rfl) (pe_methG0 (pv 0) T.c_Web T.m_Web_edges G1 hr))
    (pss_one (ps_ret (pe_lc (own := [("number", 5)]) (g := gName 5) (tt := tYes) rfl nd (pi_list (pv 3)) (blkOk_by (N := n_diff) (sc := defScope s_difference_rows) (by decide +kernel))
      (fun _ _ _ _ _ => pg_name (i := 5) nd rfl (Or.inl rfl)) (fun _ _ _ _ _ => pts_nil)
      (fun _ _ _ _ _ => pe_op (r := rCatT K) op_catT (pe_ix (r := rIxL K) ix_list (pv 4) (pv 5) (fun _ _ => rfl)) (pe_tup (pa_cons (pe_op op_sub (pe_ix (r := rIxL K) ix_list (pv 2) (pv 5) (fun _ _ => rfl)) (pe_ix (r := rIxL K) ix_list (pv 1) (pv 5) (fun _ _ => rfl))) pa_nil)))))), ?_⟩
  refine ⟨_, rfl, a, dx, _, rfl, S.at_, rfl, rfl, no, a, n, es, m, dx, ve, vf, vl, rfl, mok_no, S, fun r H1 s1 dE => ?_⟩
  obtain ⟨ea, xs, rfl, hm, hea, hl, hall, _⟩ := dE.items edgeD es
  have o1 := O.l
  refine ⟨_, rfl, q, rfl, ⟨_, SqL.of (s1 _ _ hq)⟩, fun D hD => lc_it (walk_list (xs := nvs (List.range es.length))) (fun i H' => Same H1 H' ∧ ∃ rs, H' D = some (.lst rs) ∧ DdAll (also no D) H' rs ((rowsK es bs as i).map rowD)) ⟨Same.new hD, [], upd_same, .nil⟩ (fun i H' _ h => SqL.of (h.1 _ _ (s1 _ _ hq))) ?_ ?_⟩
  · rintro i x H2 H3 hi ⟨s2, rs, hrs, drs⟩ ⟨rfl, hx⟩
    obtain ⟨hi1, rfl⟩ := nvs_get hx
    rw [List.length_range] at hi1
    have eg : (List.range es.length).getD i 0 = i := by simp [List.getD, List.getElem?_range hi1]
    rw [eg]
    obtain ⟨y, hy, dy⟩ := hall.nth' hi1 (0, 0)
    obtain ⟨t, rfl, ht⟩ := Dd.edge _ dy
    have s3 := Same.trans' s1 s2
    refine ⟨rfl, _, rfl, _, rfl, ea, _, _, .ref t, rfl, rfl, SqL.of (s2 _ _ hea), atI_nat hy, ?_⟩
    refine ⟨_, rfl, _, rfl, c, _, _, _, rfl, rfl, SqL.of (s3 _ _ hc), ints_at (by omega), ?_⟩
    refine ⟨_, rfl, _, rfl, b, _, _, _, rfl, rfl, SqL.of (s3 _ _ hb), ints_at (by omega), _, _, rfl, rfl, by show 1 ≤ sizeLine; decide, fun u hu => ?_⟩
    have s4 := Same.new (o := .tup [.int (as.getD i 0 - bs.getD i 0)]) hu
    refine ⟨t, u, _, _, rfl, rfl, SqT.of (s4 _ _ (s2 _ _ ht)), SqT.of upd_same, by simp, by show 3 ≤ sizeLine; decide, fun z => (by cases z), fun _ v hv => ?_⟩
    have s5 := Same.new' (o := .tup ([.int ((es.getD i (0, 0)).1 : Int), .int ((es.getD i (0, 0)).2 : Int)] ++ [.int (as.getD i 0 - bs.getD i 0)])) s4 hv
    have lr := drs.length
    rw [List.length_map, rowsK_len] at lr
    have mo : MOk (also no D) (upd H3 u (.tup [.int (as.getD i 0 - bs.getD i 0)])) := ((mok_no (H := H3)).also hrs).same s4
    refine ⟨rs, s5 _ _ hrs, by show _ < 16777216; omega, Same.mut (Same.trans' s2 s5) hD, _, upd_same, ?_⟩
    rw [rowsK_succ, List.map_append]
    refine ((drs.same s5).upd (.inr rfl)).append (.cons (Dd.upd ?_ (.inr rfl)) .nil)
    exact Dd.mk_tup (ns := [((es.getD i (0, 0)).1 : Int), ((es.getD i (0, 0)).2 : Int), as.getD i 0 - bs.getD i 0]) (mo.new hv) upd_same
  · rintro H2 ⟨s2, rs, hrs, drs⟩
    rw [nvs_len, List.length_range] at drs
    exact k _ _ (Same.trans' s1 s2) (.lst (fun z => z) hrs (drs.less fun b h => h.elim))
theorem sc_sysof : FnScope ["web", "before", "after"] ["web", "before", "after"] (defScope s_system_of) := ⟨rfl, rfl, rfl, by decide +kernel, rfl, by decide +kernel, by decide +kernel⟩
def spSysof (K : PySem.W.Frag) : Sp := fun vs H Q _ => vs.length = 3 ∧ ∃ (a : Addr) (n : Nat) (es : List Edge) (m : Int) (dx : Addr) (ve vf vl : V) (b c : Addr) (bs as : List Int), vs = [.ref a, .ref b, .ref c] ∧ WebAt K no H a n es m dx ve vf vl ∧ WebOk n es m ∧
  H b = some (.lst (bs.map V.int)) ∧ bs.length = es.length ∧ H c = some (.lst (as.map V.int)) ∧ as.length = es.length ∧
  ∀ x H' gs dy vr vl vg, Same H H' → SysAt K no H' x m (rowsOf es bs as) (lnk n es) gs dy vr vl vg → CompsOk (lnk n es) gs → Q (.ref x) H'
theorem ok_sysof (T : Tx K mg) : Gd P w K mg base 5 (ga K "system_of") ["web", "before", "after"] (spSysof K) := by
  have G1 : Gd P w K mg base 4 (ga K "difference_rows") ["web", "before", "after", "numbers"] (spDiff K) := (ok_diff T).mono (by decide)
  have G2 : Gd P w K mg base 4 (ma K (ga K "Web") "size") ["self"] (spWsize K) := (ok_wsize T).mono (by decide)
  have G3 : Gd P w K mg base 4 (ma K (ga K "Web") "modulus") ["self"] (spWmod K) := (ok_wmod T).mono (by decide)
  have G4 : Gd P w K mg base 3 (ma K (ga K "System") "__init__") ["self", "size", "modulus", "rows"] (spSinit K) := ok_sinit T
  refine gd_of T.f_system_of sc_sysof (fun _ _ _ _ _ _ us hl => match us, hl with | [_, _, _], _ => rfl) (fun _ _ _ _ h => h.1) (fun cdv A outer s H vs Q E hr h => ?_)
  obtain ⟨_, a, n, es, m, dx, ve, vf, vl, b, c, bs, as, rfl, S, O, hb, be, hc, ce, k⟩ := h
  refine ⟨_, pss_one (ps_ret (pe_makeG T.k_System G4 hr rfl T.g_System (pa_cons (pe_methG0 (pv 0) T.c_Web T.m_Web_size G2 hr) (pa_cons (pe_methG0 (pv 0) T.c_Web T.m_Web_modulus G3 hr) (pa_cons
    (pe_callG G1 hr rfl T.g_difference_rows (pa_cons (pv 0) (pa_cons (pv 1) (pa_cons (pv 2) (pa_cons (pe_listRg rfl (by rfl) T.n_list (prg_1 (by rfl) T.n_range (pe_lenW T (hr.mono (by decide)) (pv 0) rfl))) pa_nil))))) pa_nil))))), ?_⟩
  have o1 := O.l
  have o2 := O.n30
  refine ⟨_, rfl, a, dx, _, rfl, S.at_, rfl, rfl, no, a, n, es, m, dx, ve, vf, vl, rfl, S, ?_⟩
  refine ⟨_, rfl, a, dx, _, rfl, S.at_, rfl, rfl, no, a, n, es, m, dx, ve, vf, vl, rfl, S, ?_⟩
  refine ⟨_, rfl, _, rfl, _, rfl, _, rfl, no, a, n, es, m, dx, ve, vf, vl, rfl, S, by omega, (es.length : Int), rfl, ⟨by omega, by omega, by omega, by omega, by omega⟩, fun q hq => ?_⟩
  rw [rgV_nvs]
  have s1 := Same.new (o := .lst (nvs (List.range es.length))) hq
  refine ⟨rfl, a, n, es, m, dx, ve, vf, vl, b, c, q, bs, as, rfl, S.same s1, O, s1 _ _ hb, be, s1 _ _ hc, ce, upd_same, fun r H2 s2 dR => ?_⟩
  intro x dy hx hdx ne
  have s12 := Same.trans' s1 s2
  have s3 : Same H2 (upd (upd H2 dy (.own x)) x (.ins (ga K "System") dy [])) := Same.new' (Same.new hdx) (by rw [upd_ne ne.symm]; exact hx)
  have mo3 : MOk (also no x) (upd (upd H2 dy (.own x)) x (.ins (ga K "System") dy [])) := (mok_no).also upd_same
  have dR3 := (dR.also hx).same s3
  refine ⟨rfl, also no x, x, dy, n, m, r, rowsOf es bs as, rfl, upd_same, .inr rfl, mo3, dR3, by rw [ends_rows]; exact O.e, by rw [rowsOf_len]; exact o1, o2, by rw [ends_rows]; exact lnk_in O.e, fun H4 gs vl' vg sx SA hC => ⟨rfl, ?_⟩⟩
  rw [ends_rows] at SA hC
  have s4 : Same H H4 := fun b' o e => sx.1 b' o (fun z => by
    have e2 := s12 _ _ e
    rw [z, hx] at e2
    cases e2) (s3 _ _ (s12 _ _ e))
  exact k x H4 gs dy r vl' vg s4 ⟨SA.at_, SA.r.no, SA.l.no, SA.g.no⟩ hC
/-- no cycle speaks against: what is asked of the gains -/
def NoCyc (n : Nat) (es : List Edge) (m : Int) (bs as : List Int) : Prop := ∀ gs, CompsOk (lnk n es) gs → NoBad m (rowsOf es bs as) (lnk n es) gs
theorem sysOk_of {n : Nat} {es : List Edge} {m : Int} {bs as : List Int} {gs : List (List Nat)} (O : WebOk n es m) (hC : CompsOk (lnk n es) gs) : SysOk m (rowsOf es bs as) (lnk n es) gs where
  li := lnk_in O.e
  lk := by rw [rowsOf_len]; exact lnk_ok O.e
  n := by rw [lnk_len]; exact O.n30
  rl := by rw [rowsOf_len]; exact O.l
  ri := fun i hi => by
    rw [rowsOf_len] at hi
    rw [rowsOf_get hi, lnk_len]
    exact O.e i hi
  c := hC
theorem sc_trans : FnScope ["web", "before", "after", "fixed"] ["web", "before", "after", "fixed"] (defScope s_transform_equivalence) := ⟨rfl, rfl, rfl, by decide +kernel, rfl, by decide +kernel, by decide +kernel⟩
def spTrans (K : PySem.W.Frag) : Sp := fun vs H Q _ => vs.length = 4 ∧ ∃ (a : Addr) (n : Nat) (es : List Edge) (m : Int) (dx : Addr) (ve vf vl : V) (b c fx : Addr) (bs as : List Int), vs = [.ref a, .ref b, .ref c, .ref fx] ∧ WebAt K no H a n es m dx ve vf vl ∧ WebOk n es m ∧
  H b = some (.lst (bs.map V.int)) ∧ bs.length = es.length ∧ ResAll m bs ∧ H c = some (.lst (as.map V.int)) ∧ as.length = es.length ∧ ResAll m as ∧ H fx = some (.lst []) ∧ NoCyc n es m bs as ∧
  ∀ t y H', Same H H' → H' t = some (.tup [.str "potential", y]) → Q (.ref t) H'
theorem ok_trans (T : Tx K mg) : GdK P w K mg base 7 (ga K "transform_equivalence") ["web", "before", "after", "fixed"] (spTrans K) 3 ["fixed"] (fun vs zs => vs ++ zs) := by
  have G1 : Gd P w K mg base 6 (ga K "check_gains") ["web", "gains"] (spChkGains K) := ok_chk_gains T
  have G2 : Gd P w K mg base 6 (ga K "check_fixed") ["web", "fixed"] (spChkFixed K) := (ok_chk_fixed T).mono (by decide)
  have G3 : Gd P w K mg base 6 (ga K "system_of") ["web", "before", "after"] (spSysof K) := (ok_sysof T).mono (by decide)
  have G4 : Gd P w K mg base 6 (ma K (ga K "System") "solved") ["self", "fixed"] (spSolved K) := (ok_solved T).mono (by decide)
  obtain ⟨fd, F⟩ := T.f_transform_equivalence
  obtain ⟨mv, kb⟩ := F.kbinds0 (ps := ["web", "before", "after", "fixed"]) 3 ["fixed"] [] (fun us _ ws => us ++ ws) (by simp) (fun q h => absurd h List.not_mem_nil) (fun r1 _ r4 => r1.append r4)
    (fun D doc pm an cdv ct us mv ws h1 h3 h4 => match us, mv, ws, h1, h3, h4 with | [_, _, _], [], [_], _, _, _ => rfl)
  refine ⟨⟨fd, _, fnok_of F sc_trans (fun _ _ _ _ h => h.1) (fun cdv A outer s H vs Q E hr h => ?_), kb⟩, F.kp⟩
  obtain ⟨_, a, n, es, m, dx, ve, vf, vl, b, c, fx, bs, as, rfl, S, O, hb, be, rb, hc, ce, rc, hf, nc, k⟩ := h
  refine ⟨_, pss_cons (ps_expr (pe_callG G1 hr rfl T.g_check_gains (pa_cons (pv 0) (pa_cons (pv 1) pa_nil))))
    (pss_cons (ps_expr (pe_callG G1 hr rfl T.g_check_gains (pa_cons (pv 0) (pa_cons (pv 2) pa_nil))))
    (pss_cons (ps_expr (pe_callG G2 hr rfl T.g_check_fixed (pa_cons (pv 0) (pa_cons (pv 3) pa_nil))))
    (pss_one (ps_ret (pe_methG (pe_callG G3 hr rfl T.g_system_of (pa_cons (pv 0) (pa_cons (pv 1) (pa_cons (pv 2) pa_nil)))) T.c_System T.m_System_solved G4 hr (pa_cons (pv 3) pa_nil)))))), ?_⟩
  have o1 := O.l
  refine ⟨_, rfl, _, rfl, rfl, no, a, n, es, m, dx, ve, vf, vl, b, bs, rfl, S, hb, rb, be, by omega, fun H1 s1 => ?_⟩
  refine ⟨_, rfl, _, rfl, rfl, no, a, n, es, m, dx, ve, vf, vl, c, as, rfl, S.same s1, s1 _ _ hc, rc, ce, by omega, fun H2 s2 => ?_⟩
  have s12 := Same.trans' s1 s2
  refine ⟨_, rfl, _, rfl, rfl, a, fx, rfl, .inl (s12 _ _ hf), fun H3 s3 => ?_⟩
  have s13 := Same.trans' s12 s3
  refine ⟨_, rfl, _, rfl, _, rfl, rfl, a, n, es, m, dx, ve, vf, vl, b, c, bs, as, rfl, S.same s13, O, s13 _ _ hb, be, s13 _ _ hc, ce, fun x H4 gs dy vr vl' vg s4 SA hC => ?_⟩
  have s14 := Same.trans' s13 s4
  refine ⟨x, dy, _, rfl, SA.at_, rfl, _, rfl, rfl, no, x, fx, m, _, _, gs, dy, vr, vl', vg, rfl, s14 _ _ hf, mok_no, SA, sysOk_of O hC, nc gs hC, fun t y H5 s5 ht => k t y H5 (Same.trans' s14 s5) ht⟩
abbrev n_leads : List Str := ["web", "before", "after", "potential", "fixed", "node"]
theorem sc_leads : FnScope n_leads ["web", "before", "after", "potential", "fixed"] (defScope s_leads) := ⟨rfl, rfl, rfl, by decide +kernel, rfl, by decide +kernel, by decide +kernel⟩
def spLeads (K : PySem.W.Frag) : Sp := fun vs H Q _ => vs.length = 5 ∧ ∃ (a : Addr) (n : Nat) (es : List Edge) (m : Int) (dx : Addr) (ve vf vl : V) (b c p fx : Addr) (bs as ps : List Int), vs = [.ref a, .ref b, .ref c, .ref p, .ref fx] ∧ WebAt K no H a n es m dx ve vf vl ∧ WebOk n es m ∧
  H b = some (.lst (bs.map V.int)) ∧ bs.length = es.length ∧ ResAll m bs ∧ H c = some (.lst (as.map V.int)) ∧ H p = some (.lst (ps.map V.int)) ∧ ResAll m ps ∧ ps.length = n ∧ emptyT K fx = true ∧ swl es m bs ps es.length = as ∧
  ∀ H', Same H H' → Q (.bl true) H'
theorem ok_leads (T : Tx K mg) : Gd P w K mg base 8 (ga K "leads") ["web", "before", "after", "potential", "fixed"] (spLeads K) := by
  have G1 : Gd P w K mg base 7 (ga K "is_potential") ["web", "thing"] (spIsPot K) := (ok_is_pot T).mono (by decide)
  have G2 : Gd P w K mg base 7 (ga K "switched") ["web", "gains", "potential"] (spSwi K) := ok_swi T
  refine gd_of T.f_leads sc_leads (fun _ _ _ _ _ _ us hl => match us, hl with | [_, _, _, _, _], _ => rfl) (fun _ _ _ _ h => h.1) (fun cdv A outer s H vs Q E hr h => ?_)
  obtain ⟨_, a, n, es, m, dx, ve, vf, vl, b, c, p, fx, bs, as, ps, rfl, S, O, hb, be, rb, hc, hp, rp, pe, hf, eq, k⟩ := h
  have nd := sc_leads.nd
  have hu := hr.units
  have o1 := O.l
  have o2 := O.n30
  refine ⟨_, pss_cons (ps_if (PW.pt (pw_or (pt_not (pt_val (pe_callG G1 hr rfl T.g_is_potential (pa_cons (pv 0) (pa_cons (pv 3) pa_nil))))) (pw_or1 (pt_cmpR (op_neD hu) (pe_callG G2 hr rfl T.g_switched (pa_cons (pv 0) (pa_cons (pv 1) (pa_cons (pv 3) pa_nil)))) (pv 2) (nomark _))))) pss_never pss_nil)
    (pss_one (ps_ret (pe_callB (cr_all rfl) (by rfl) T.n_all (by decide +kernel) (pa_cons
        (pe_lc (own := [("node", 5)]) (g := gName 5) (tt := tYes) rfl nd (pi_tup (pv 4)) (blkOk_by (N := n_leads) (sc := defScope s_leads) (by decide +kernel)) (fun _ _ _ _ _ => pg_name (i := 5) nd rfl (Or.inl rfl)) (fun _ _ _ _ _ => pts_nil)
          (fun _ _ _ _ _ => pe_no)) pa_nil)))), ?_⟩
  refine ⟨_, rfl, _, rfl, rfl, no, a, n, es, m, dx, ve, vf, vl, p, ps, rfl, S, hp, rp, pe, by omega, fun H1 s1 => ⟨true, rfl, iteF ?_⟩⟩
  refine ⟨_, rfl, _, rfl, _, rfl, rfl, no, a, n, es, m, dx, ve, vf, vl, b, p, bs, ps, rfl, mok_no, S.same s1, O, s1 _ _ hb, rb, be, s1 _ _ hp, rp, pe, fun r H2 s2 _ hr2 => ?_⟩
  rw [eq] at hr2
  have s12 := Same.trans' s1 s2
  refine ⟨_, rfl, intsD as, intsD as, .lst (SqL.of hr2) (DdAll.dp (M := no) _ _ (DdAll.ints as)), .lst (SqL.of (s12 _ _ hc)) (DdAll.dp (M := no) _ _ (DdAll.ints as)), (shp_ints as).shaped (by decide), (shp_ints as).shaped (by decide), _, rfl, iteN ?_ ?_⟩
  · rw [SeqAt.eqv_refl (intsD as) (SeqAt.canLay_of_shaped ((shp_ints as).shaped (by decide)))]; rfl
  have sqH : ∀ H', SqT K H' fx [] := fun H' => (emptyT_sq hf).1
  refine ⟨_, rfl, fx, rfl, ⟨_, sqH _⟩, fun D hD => lc_it (walk_tup (K := K) (xs := [])) (fun i H' => H' = upd H2 D (.lst [])) rfl (fun i H' _ h => sqH _) (fun i x H _ hi => absurd hi (Nat.not_lt_zero _)) ?_⟩
  rintro H3 rfl
  exact ⟨D, [], rfl, SqL.of upd_same, k _ (Same.new' s12 hD)⟩
abbrev n_ist : List Str := ["web", "before", "after", "thing", "fixed", "word", "paper"]
theorem sc_ist : FnScope n_ist ["web", "before", "after", "thing", "fixed"] (defScope s_is_transform) := ⟨rfl, rfl, rfl, by decide +kernel, rfl, by decide +kernel, by decide +kernel⟩
def spIst (K : PySem.W.Frag) : Sp := fun vs H Q _ => vs.length = 5 ∧ ∃ (a : Addr) (n : Nat) (es : List Edge) (m : Int) (dx : Addr) (ve vf vl : V) (b c t p fx : Addr) (bs as ps : List Int), vs = [.ref a, .ref b, .ref c, .ref t, .ref fx] ∧ WebAt K no H a n es m dx ve vf vl ∧ WebOk n es m ∧
  H b = some (.lst (bs.map V.int)) ∧ bs.length = es.length ∧ ResAll m bs ∧ H c = some (.lst (as.map V.int)) ∧ as.length = es.length ∧ ResAll m as ∧ H t = some (.tup [.str "potential", .ref p]) ∧ H p = some (.lst (ps.map V.int)) ∧ ResAll m ps ∧ ps.length = n ∧ emptyT K fx = true ∧ swl es m bs ps es.length = as ∧
  ∀ H', Same H H' → Q (.bl true) H'
theorem ok_ist (T : Tx K mg) : GdD P w K mg base 9 (ga K "is_transform") ["web", "before", "after", "thing", "fixed"] (spIst K) [V.ref (kwdAt ("is_transform", none) "fixed" K)] := by
  have G1 : Gd P w K mg base 8 (ga K "check_gains") ["web", "gains"] (spChkGains K) := (ok_chk_gains T).mono (by decide)
  have G2 : Gd P w K mg base 8 (ga K "check_fixed") ["web", "fixed"] (spChkFixed K) := (ok_chk_fixed T).mono (by decide)
  have G3 : Gd P w K mg base 8 (ga K "leads") ["web", "before", "after", "potential", "fixed"] (spLeads K) := ok_leads T
  obtain ⟨fd, F⟩ := T.f_is_transform
  obtain ⟨ds, vd, kb⟩ := F.binds0 (ps := ["web", "before", "after", "thing", "fixed"]) 4 (by simp) rfl
    (fun D doc pm an cdv ct us ks h1 h2 => match us, ks, h1, h2 with | [_, _, _, _], [_], _, _ => ⟨_, _, _, _, _, _, rfl, rfl, rfl⟩)
  refine ⟨⟨fd, ds, fnok_of F sc_ist (fun _ _ _ _ h => h.1) (fun cdv A outer s H vs Q E hr h => ?_), vd, kb⟩, F.kp⟩
  obtain ⟨_, a, n, es, m, dx, ve, vf, vl, b, c, t, p, fx, bs, as, ps, rfl, S, O, hb, be, rb, hc, ce, rc, ht, hp, rp, pe, hf, eq, k⟩ := h
  have nd := sc_ist.nd
  have o1 := O.l
  refine ⟨_, pss_cons (ps_expr (pe_callG G1 hr rfl T.g_check_gains (pa_cons (pv 0) (pa_cons (pv 1) pa_nil))))
    (pss_cons (ps_expr (pe_callG G1 hr rfl T.g_check_gains (pa_cons (pv 0) (pa_cons (pv 2) pa_nil))))
    (pss_cons (ps_expr (pe_callG G2 hr rfl T.g_check_fixed (pa_cons (pv 0) (pa_cons (pv 4) pa_nil))))
    (pss_cons (ps_if (PW.pt (pw_or (pt_not (pt_val (pe_isi "tuple" (pv 3) rfl T.n_isinstance rfl T.n_tuple (by decide +kernel)))) (pw_or (pt_cmpR op_ne (pe_len (pv 3) rfl T.n_len) pe_int (nomark _)) (pw_or1 (pt_not (pt_val (pe_isi "str" (pe_ix ix_tup (pv 3) pe_int (fun _ _ => rfl)) rfl T.n_isinstance rfl T.n_str (by decide +kernel)))))))) pss_never pss_nil)
    (pss_cons (ps_asg (pv 3) (pg_tup rfl (pgs_cons (pg_name (i := 5) nd rfl (Or.inl rfl)) (pgs_cons (pg_name (i := 6) nd rfl (Or.inl rfl)) pgs_nil))))
    (pss_cons (ps_if (pt_cmpR op_eq (pv 5) pe_str (nomark _)) (pss_one (ps_ret (pe_callG G3 hr rfl T.g_leads (pa_cons (pv 0) (pa_cons (pv 1) (pa_cons (pv 2) (pa_cons (pv 6) (pa_cons (pv 4) pa_nil)))))))) pss_nil)
    pss_never))))), ?_⟩
  refine ⟨_, rfl, _, rfl, rfl, no, a, n, es, m, dx, ve, vf, vl, b, bs, rfl, S, hb, rb, be, by omega, fun H1 s1 => ?_⟩
  refine ⟨_, rfl, _, rfl, rfl, no, a, n, es, m, dx, ve, vf, vl, c, as, rfl, S.same s1, s1 _ _ hc, rc, ce, by omega, fun H2 s2 => ?_⟩
  have s12 := Same.trans' s1 s2
  refine ⟨_, rfl, _, rfl, rfl, a, fx, rfl, .inr hf, fun H3 s3 => ?_⟩
  have s13 := Same.trans' s12 s3
  have ht3 := s13 _ _ ht
  refine ⟨_, rfl, _, _, _, _, true, rfl, .ty _, .base (.tup ht3), kit_ty (by decide +kernel), true, rfl, iteF ?_⟩
  refine ⟨_, rfl, _, _, rfl, .inr (SqT.of ht3), rfl, _, rfl, iteN (by rfl) ?_⟩
  refine ⟨_, rfl, _, _, _, _, rfl, rfl, SqT.of ht3, rfl, _, _, _, _, true, rfl, .ty _, .base (.str _), kit_ty (by decide +kernel), true, rfl, iteF ?_⟩
  refine ⟨_, rfl, t, _, rfl, SqT.of ht3, rfl, _, _, rfl, _, _, rfl, ⟨rfl, ?_⟩⟩
  refine ⟨_, rfl, rfl, _, rfl, iteY (decide_eq_true rfl) ?_⟩
  exact ⟨_, rfl, _, rfl, _, rfl, _, rfl, _, rfl, rfl, a, n, es, m, dx, ve, vf, vl, b, c, p, fx, bs, as, ps, rfl, S.same s13, O, s13 _ _ hb, be, rb, s13 _ _ hc, s13 _ _ hp, rp, pe, hf, eq, fun H4 s4 => k _ (Same.trans' s13 s4)⟩
end
end Tt
set_option Elab.async false
set_option linter.all false
/-! Plain mathematics: sums along walks, levels, reductions. -/
namespace Tt
def Cg (m a b : Int) : Prop := m ∣ a - b
theorem Cg.refl {m a : Int} : Cg m a a := by unfold Cg; rw [Int.sub_self]; exact Int.dvd_zero _
theorem Cg.add {m a b c d : Int} (h : Cg m a b) (k : Cg m c d) : Cg m (a + c) (b + d) := by
  unfold Cg at *
  have e : a + c - (b + d) = (a - b) + (c - d) := by omega
  rw [e]; exact Int.dvd_add h k
theorem Cg.sub {m a b c d : Int} (h : Cg m a b) (k : Cg m c d) : Cg m (a - c) (b - d) := by
  unfold Cg at *
  have e : a - c - (b - d) = (a - b) - (c - d) := by omega
  rw [e]; exact Int.dvd_sub h k
theorem Cg.mul {m a b c : Int} (h : Cg m a b) : Cg m (c * a) (c * b) := by
  unfold Cg at *
  have e : c * a - c * b = c * (a - b) := by rw [Int.mul_sub]
  rw [e]; exact Int.dvd_mul_of_dvd_right h
theorem Cg.trans {m a b c : Int} (h : Cg m a b) (k : Cg m b c) : Cg m a c := by
  unfold Cg at *
  have e : a - c = (a - b) + (b - c) := by omega
  rw [e]; exact Int.dvd_add h k
theorem Cg.symm {m a b : Int} (h : Cg m a b) : Cg m b a := by
  unfold Cg at *
  have e : b - a = -(a - b) := by omega
  rw [e]; exact Int.dvd_neg.mpr h
theorem cg_red {m : Int} (h0 : 0 ≤ m) (x : Int) : Cg m (red x m) x := by
  unfold red
  by_cases e : 0 < m
  · rw [if_pos e]
    unfold Cg
    have := Int.emod_add_mul_ediv x m
    have e2 : x % m - x = m * (-(x / m)) := by rw [Int.mul_neg]; omega
    rw [e2]; exact Int.dvd_mul_right _ _
  · rw [if_neg e]; exact Cg.refl
theorem red_zero {m x : Int} (h0 : 0 ≤ m) (h : Cg m x 0) : red x m = 0 := by
  unfold Cg at h
  rw [Int.sub_zero] at h
  unfold red
  by_cases e : 0 < m
  · rw [if_pos e]; exact Int.emod_eq_zero_of_dvd h
  · rw [if_neg e]
    have : m = 0 := by omega
    rw [this] at h
    exact Int.zero_dvd.mp h
/-- congruent numbers have one residue -/
theorem mod_cg {d a b : Int} (h : Cg d a b) : a % d = b % d := by
  unfold Cg at h
  exact Int.emod_eq_emod_iff_emod_sub_eq_zero.mpr (Int.emod_eq_zero_of_dvd h)
theorem cg_mod {d a : Int} : Cg d (a % d) a := by
  unfold Cg
  have := Int.emod_add_mul_ediv a d
  have e2 : a % d - a = d * (-(a / d)) := by rw [Int.mul_neg]; omega
  rw [e2]; exact Int.dvd_mul_right _ _
theorem Cg.of_dvd {m d a b : Int} (h : Cg m a b) (k : d ∣ m) : Cg d a b := Int.dvd_trans k h
theorem getD_mod (gs : List Int) (d : Int) (i : Nat) : (gs.map (· % d)).getD i 0 = gs.getD i 0 % d := by
  by_cases h : i < gs.length
  · rw [getD_map _ _ _ 0 _ h]
  · have h1 : gs[i]? = none := List.getElem?_eq_none (by omega)
    simp [List.getD, h1]
theorem red_pos {d : Int} (h : 0 < d) (x : Int) : red x d = x % d := if_pos h
theorem sw_red {es : List Edge} {m d : Int} {gs p : List Int} (hd : 0 < d) (h0 : 0 ≤ m) (dm : m % d = 0) (i : Nat) : sw1 es d (gs.map (· % d)) (p.map (· % d)) i = sw1 es m gs p i % d := by
  unfold sw1
  rw [red_pos hd, getD_mod, getD_mod, getD_mod]
  refine mod_cg ?_
  have k : d ∣ m := Int.dvd_of_emod_eq_zero dm
  exact ((cg_mod.add cg_mod).sub cg_mod).trans ((cg_red h0 _).of_dvd k).symm
theorem swl_red {es : List Edge} {m d : Int} {gs p : List Int} (hd : 0 < d) (h0 : 0 ≤ m) (dm : m % d = 0) (k : Nat) : swl es d (gs.map (· % d)) (p.map (· % d)) k = (swl es m gs p k).map (· % d) := by
  unfold swl
  rw [List.map_map]
  exact List.map_congr_left fun i _ => sw_red hd h0 dm i
theorem gsum_cg {d : Int} {gs : List Int} : ∀ w : Walk, Cg d (gsum (gs.map (· % d)) w) (gsum gs w)
  | [] => Cg.refl
  | s :: w => by
    have ih := gsum_cg (d := d) (gs := gs) w
    have e1 : gsum (gs.map (· % d)) (s :: w) = s.2 * (gs.getD s.1 0 % d) + gsum (gs.map (· % d)) w := by
      show ((s :: w).map _).sum = _
      rw [List.map_cons, List.sum_cons, getD_mod]; rfl
    have e2 : gsum gs (s :: w) = s.2 * gs.getD s.1 0 + gsum gs w := by
      show ((s :: w).map _).sum = _
      rw [List.map_cons, List.sum_cons]; rfl
    rw [e1, e2]
    exact (cg_mod.mul).add ih
theorem csums_red {n : Nat} {es : List Edge} {m d : Int} {gs : List Int} (hd : 0 < d) (h0 : 0 ≤ m) (dm : m % d = 0) : csums n es d (gs.map (· % d)) = (csums n es m gs).map (· % d) := by
  unfold csums
  rw [List.map_map]
  refine List.map_congr_left fun w _ => ?_
  show red _ d = red _ m % d
  rw [red_pos hd]
  exact mod_cg ((gsum_cg w).trans ((cg_red h0 _).of_dvd (Int.dvd_of_emod_eq_zero dm)).symm)
theorem redAll {d : Int} (h : 0 < d) (gs : List Int) : (gs.map fun i => red i d) = gs.map (· % d) := List.map_congr_left fun i _ => red_pos h i
theorem res_mod {d : Int} (h : 0 < d) (gs : List Int) : ResAll d (gs.map (· % d)) := by
  intro i hi
  obtain ⟨x, _, rfl⟩ := List.mem_map.mp hi
  exact .inr ⟨Int.emod_nonneg _ (by omega), Int.emod_lt_of_pos _ h⟩
theorem res_swl {es : List Edge} {m : Int} {gs p : List Int} {k : Nat} (h0 : 0 ≤ m) : ResAll m (swl es m gs p k) := by
  intro i hi
  obtain ⟨x, _, rfl⟩ := List.mem_map.mp hi
  exact red_res h0 _
/-! ### the levels -/
section
variable {n : Nat} {es : List Edge} {m : Int} {bs p : List Int}
abbrev pot (p : List Int) (i : Nat) : Int := p.getD i 0
theorem swl_get {k i : Nat} (h : i < k) : (swl es m bs p k).getD i 0 = sw1 es m bs p i := by
  unfold swl
  rw [getD_map _ _ _ 0 _ (by simpa using h)]
  congr 1
  simp [List.getD, List.getElem?_range h]
theorem diff_cg (h0 : 0 ≤ m) {i : Nat} (h : i < es.length) : Cg m ((rowsOf es bs (swl es m bs p es.length)).getD i (0, 0, 0)).2.2 (pot p (es.getD i (0, 0)).1 - pot p (es.getD i (0, 0)).2) := by
  rw [rowsOf_get h]
  show Cg m ((swl es m bs p es.length).getD i 0 - bs.getD i 0) _
  rw [swl_get h]
  unfold sw1
  refine ((cg_red h0 _).sub Cg.refl).trans ?_
  unfold Cg pot
  have e : bs.getD i 0 + p.getD (es.getD i (0, 0)).1 0 - p.getD (es.getD i (0, 0)).2 0 - bs.getD i 0 - (p.getD (es.getD i (0, 0)).1 0 - p.getD (es.getD i (0, 0)).2 0) = 0 := by omega
  rw [e]; exact Int.dvd_zero _
theorem wsum_along (he : EdgesIn n es) (h0 : 0 ≤ m) {a b : Nat} {w : Walk} (h : Along (lnk n es) a w b) : Cg m (wsum (rowsOf es bs (swl es m bs p es.length)) w) (pot p a - pot p b) := by
  induction h with
  | nil => unfold Cg wsum; simp
  | @snoc w b l h hl ih =>
    obtain ⟨h1, h2⟩ := (mem_lnk he).mp hl
    have hi := forest_lt he h1
    have dc := diff_cg (bs := bs) (p := p) h0 hi
    have e1 : wsum (rowsOf es bs (swl es m bs p es.length)) (w ++ [(l.1, l.2.1)]) = wsum (rowsOf es bs (swl es m bs p es.length)) w + l.2.1 * ((rowsOf es bs (swl es m bs p es.length)).getD l.1 (0, 0, 0)).2.2 := by
      unfold wsum
      rw [List.map_append, List.sum_append]
      simp
    rw [e1]
    have e2 : Cg m (l.2.1 * ((rowsOf es bs (swl es m bs p es.length)).getD l.1 (0, 0, 0)).2.2) (pot p b - pot p l.2.2) := by
      refine (dc.mul (c := l.2.1)).trans ?_
      rcases h2 with ⟨w1, e⟩ | ⟨w1, e⟩
      · rw [w1, e, Int.one_mul]; exact Cg.refl
      · rw [w1, e]
        unfold Cg
        have : -1 * (pot p l.2.2 - pot p b) - (pot p b - pot p l.2.2) = 0 := by omega
        rw [this]; exact Int.dvd_zero _
    have := ih.add e2
    refine this.trans ?_
    unfold Cg
    have e3 : pot p a - pot p b + (pot p b - pot p l.2.2) - (pot p a - pot p l.2.2) = 0 := by omega
    rw [e3]; exact Int.dvd_zero _
theorem lvP_out {rs : List Row} {m : Int} : ∀ (ps : Pths) (f : List Int) {x : Nat}, x ∉ ps.map (·.1) → (ps.foldl (lvP rs m) f).getD x 0 = f.getD x 0
  | [], _, _, _ => rfl
  | q :: ps, f, x, h => by
    have h1 : x ≠ q.1 := fun z => h (by rw [z]; exact List.mem_cons_self ..)
    have h2 : x ∉ ps.map (·.1) := fun z => h (List.mem_cons_of_mem _ z)
    rw [List.foldl_cons, lvP_out ps _ h2]
    exact getD_set_ne f q.1 x _ 0 (fun z => h1 z.symm)
theorem lvP_in {rs : List Row} {m : Int} : ∀ (ps : Pths) (f : List Int) {x : Nat} {w : Walk}, (ps.map (·.1)).Nodup → (x, w) ∈ ps → x < f.length → (ps.foldl (lvP rs m) f).getD x 0 = red (0 - wsum rs w) m
  | [], _, _, _, _, h, _ => absurd h List.not_mem_nil
  | q :: ps, f, x, w, nd, h, hx => by
    rw [List.map_cons, List.nodup_cons] at nd
    rw [List.foldl_cons]
    rcases List.mem_cons.mp h with h | h
    · subst h
      rw [lvP_out ps _ nd.1]
      exact getD_set_eq f x _ 0 hx
    · exact lvP_in ps _ nd.2 h (by rw [lvP_len]; exact hx)
/-- at an edge's ends the levels lie as the potential -/
theorem levels_edge (he : EdgesIn n es) (h0 : 0 ≤ m) {i : Nat} (hi : i < es.length) : ∀ (gs done : List (List Nat)) (f : List Int), f.length = n → (∀ g, g ∈ gs → ∃ g0, g[0]? = some g0 ∧ g0 < n) →
    ((∃ g g0, g ∈ done ∧ g[0]? = some g0 ∧ Sk n es g0 (es.getD i (0, 0)).1) → ∃ c, Cg m (f.getD (es.getD i (0, 0)).1 0) (pot p (es.getD i (0, 0)).1 - c) ∧ Cg m (f.getD (es.getD i (0, 0)).2 0) (pot p (es.getD i (0, 0)).2 - c)) →
    ((∃ g g0, g ∈ done ++ gs ∧ g[0]? = some g0 ∧ Sk n es g0 (es.getD i (0, 0)).1) → ∃ c, Cg m ((gs.foldl (lvG (lnk n es) (rowsOf es bs (swl es m bs p es.length)) m) f).getD (es.getD i (0, 0)).1 0) (pot p (es.getD i (0, 0)).1 - c) ∧
      Cg m ((gs.foldl (lvG (lnk n es) (rowsOf es bs (swl es m bs p es.length)) m) f).getD (es.getD i (0, 0)).2 0) (pot p (es.getD i (0, 0)).2 - c))
  | [], done, f, _, _, h => by rw [List.append_nil]; exact h
  | g :: gs, done, f, fl, hg, h => by
    obtain ⟨g0, e0, g0l⟩ := hg g (List.mem_cons_self ..)
    obtain ⟨b1, b2⟩ := he i hi
    have inv := walkPaths_inv (start := g0) (lnk_in he) (by rw [lnk_len]; exact g0l)
    have eg : g.getD 0 0 = g0 := by simp [List.getD, e0]
    have key := levels_edge he h0 hi gs (done ++ [g]) (lvG (lnk n es) (rowsOf es bs (swl es m bs p es.length)) m f g) (by rw [lvG_len, fl]) (fun x hx => hg x (List.mem_cons_of_mem _ hx))
    rw [List.append_assoc, List.singleton_append] at key
    rw [List.foldl_cons]
    refine key fun hex => ?_
    unfold lvG
    rw [eg]
    by_cases hs : Sk n es g0 (es.getD i (0, 0)).1
    · have hs2 := (sk_edge he g0l hi).mp hs
      refine ⟨pot p g0, ?_, ?_⟩
      · rw [lvP_in _ f inv.nd (pget_mem (phas_iff.mpr hs)) (by rw [fl]; exact b1)]
        refine (cg_red h0 _).trans ((Cg.refl.sub (wsum_along he h0 (sk_path he g0l hs))).trans ?_)
        unfold Cg
        have : 0 - (pot p g0 - pot p (es.getD i (0, 0)).1) - (pot p (es.getD i (0, 0)).1 - pot p g0) = 0 := by omega
        rw [this]; exact Int.dvd_zero _
      · rw [lvP_in _ f inv.nd (pget_mem (phas_iff.mpr hs2)) (by rw [fl]; exact b2)]
        refine (cg_red h0 _).trans ((Cg.refl.sub (wsum_along he h0 (sk_path he g0l hs2))).trans ?_)
        unfold Cg
        have : 0 - (pot p g0 - pot p (es.getD i (0, 0)).2) - (pot p (es.getD i (0, 0)).2 - pot p g0) = 0 := by omega
        rw [this]; exact Int.dvd_zero _
    · have hs2 : ¬ Sk n es g0 (es.getD i (0, 0)).2 := fun z => hs ((sk_edge he g0l hi).mpr z)
      rw [lvP_out _ f hs, lvP_out _ f hs2]
      refine h ?_
      obtain ⟨g', g0', hm, e', sk⟩ := hex
      rcases List.mem_append.mp hm with hm | hm
      · exact ⟨g', g0', hm, e', sk⟩
      · rw [List.mem_singleton.mp hm, e0] at e'
        rw [← Option.some.inj e'] at sk
        exact absurd sk hs
theorem noCyc (he : EdgesIn n es) (h0 : 0 ≤ m) : NoCyc n es m bs (swl es m bs p es.length) := by
  intro gs hC i hi
  rw [rowsOf_len] at hi
  obtain ⟨b1, b2⟩ := he i hi
  have hc := hC.cov (es.getD i (0, 0)).1 (by rw [lnk_len]; exact b1)
  obtain ⟨g, g0, s, hm, e0, hs, k1, k2⟩ := hc
  rw [lnk_len] at hs
  obtain ⟨g0', e0', g0l⟩ := hC.ne g hm
  rw [e0] at e0'
  obtain rfl := Option.some.inj e0'
  rw [lnk_len] at g0l
  obtain ⟨c, c1, c2⟩ := levels_edge he h0 hi gs [] (List.replicate n 0) (by simp) (fun x hx => by
    obtain ⟨y, a, b⟩ := hC.ne x hx
    rw [lnk_len] at b
    exact ⟨y, a, b⟩) (fun ⟨_, _, z, _⟩ => absurd z List.not_mem_nil) (bs := bs) (p := p) ⟨g, g0, hm, e0, sk_from he hs g0l k2 k1⟩
  have dc := diff_cg (bs := bs) (p := p) h0 hi
  refine red_zero h0 ?_
  have el : levels (lnk n es) (rowsOf es bs (swl es m bs p es.length)) m gs = gs.foldl (lvG (lnk n es) (rowsOf es bs (swl es m bs p es.length)) m) (List.replicate n 0) := by
    unfold levels
    rw [lnk_len]
  have er : (rowsOf es bs (swl es m bs p es.length)).getD i (0, 0, 0) = row1 es bs (swl es m bs p es.length) i := rowsOf_get hi
  rw [el]
  rw [er] at dc ⊢
  refine ((c1.sub c2).sub dc).trans ?_
  unfold Cg
  show m ∣ (pot p (es.getD i (0, 0)).1 - c) - (pot p (es.getD i (0, 0)).2 - c) - (pot p (es.getD i (0, 0)).1 - pot p (es.getD i (0, 0)).2) - 0
  have : (pot p (es.getD i (0, 0)).1 - c) - (pot p (es.getD i (0, 0)).2 - c) - (pot p (es.getD i (0, 0)).1 - pot p (es.getD i (0, 0)).2) - 0 = 0 := by omega
  rw [this]; exact Int.dvd_zero _
end
end Tt
set_option Elab.async false
set_option linter.all false
set_option maxRecDepth 100000
set_option maxHeartbeats 4000000
/-! boards: copied, Board.__init__, do_reduce -/
namespace Tt
open PySem PySem.Spec PyProof.Rows L2 He
section
variable {X : Cx}
/-- sorted of nothing, a list or a tuple -/
theorem cr_sorted0 : CallR X (.builtin "sorted") (fun xs H Q => ∃ a, xs = [.ref a] ∧ (SqL X.K H a [] ∨ SqT X.K H a []) ∧ ∀ p, H p = none → Q (.ref p) (upd H p (.lst []))) := by
  intro pins s σ H vs us Q I r h
  obtain ⟨a, rfl, hs, q⟩ := h
  rcases hs with hs | hs
  · refine cr_sortedI pins s σ H _ us Q I r ⟨a, [], rfl, hs, fun ns' p pp _ hp => ?_⟩
    obtain rfl : ns' = [] := List.length_eq_zero_iff.mp (by rw [pp.length_eq]; rfl)
    exact q p hp
  · exact cr_sortedT0 pins s σ H _ us Q I r ⟨a, rfl, hs, q⟩
end
def bdF (wa g f lg pst : Addr) : List (Str × V) := [("own_web", .ref wa), ("own_gains", .ref g), ("own_fixed", .ref f), ("own_log", .ref lg), ("past", .ref pst)]
section
variable {P : Program} {w : World} {K : PySem.W.Frag} {mg : Str → Option Value} {base : Heap}
abbrev n_cop : List Str := ["entry", "one"]
theorem sc_cop : FnScope n_cop ["entry"] (defScope s_copied) := ⟨rfl, rfl, rfl, by decide +kernel, rfl, by decide +kernel, by decide +kernel⟩
def spCop : Sp := fun vs H Q _ => vs.length = 1 ∧ ∃ (t : Addr) (d : Int), vs = [.ref t] ∧ H t = some (.tup [.str "reduce", .int d]) ∧ ∀ r H', Same H H' → H r = none → H' r = some (.tup [.str "reduce", .int d]) → Q (.ref r) H'
theorem ok_cop (T : Tx K mg) : Gd P w K mg base 1 (ga K "copied") ["entry"] spCop := by
  refine gd_of T.f_copied sc_cop (fun _ _ _ _ _ _ us hl => match us, hl with | [_], _ => rfl) (fun _ _ _ _ h => h.1) (fun cdv A outer s H vs Q E hr h => ?_)
  obtain ⟨_, t, d, rfl, ht, k⟩ := h
  have nd := sc_cop.nd
  refine ⟨_, pss_cons (ps_if (pt_cmpR op_eq (pe_ix ix_tup (pv 0) pe_int (fun _ _ => rfl)) pe_str (nomark _)) pss_never pss_nil)
    (pss_one (ps_ret (pe_op op_catT (pe_tup (pa_cons (pe_ix ix_tup (pv 0) pe_int (fun _ _ => rfl)) pa_nil)) (pe_callTy call_tuple_of (by rfl) T.n_tuple (by decide +kernel) (pa_cons
      (pe_lc (own := [("one", 1)]) (g := gName 1) (tt := tYes) (te := tIf (tB (tCB (rIsi K) (tCons (tVar 1) (tCons (tC (.ty "list")) tNil)))) tNo (tVar 1)) rfl nd (pi_tup (pe_slice sl_tup (pv 0) (po_some pe_int) po_none)) (blkOk_by (N := n_cop) (sc := defScope s_copied) (by decide +kernel))
        (fun _ _ _ _ _ => pg_name (i := 1) nd rfl (Or.inl rfl)) (fun _ _ _ _ _ => pts_nil)
        (fun _ _ _ _ _ => pe_ifExp (pt_val (pe_isi "list" (pv 1) rfl T.n_isinstance rfl T.n_list (by decide +kernel))) pe_no (pv 1))) pa_nil))))), ?_⟩
  refine ⟨_, rfl, _, _, _, _, rfl, rfl, SqT.of ht, rfl, rfl, _, rfl, iteN (by decide) ?_⟩
  refine ⟨_, rfl, _, _, _, _, rfl, rfl, SqT.of ht, rfl, by show 1 ≤ sizeLine; decide, fun u hu => ?_⟩
  have s1 := Same.new (o := .tup [.str "reduce"]) hu
  have hu1 : upd H u (.tup [.str "reduce"]) u = some (.tup [.str "reduce"]) := upd_same
  generalize upd H u (.tup [.str "reduce"]) = H1 at s1 hu1 ⊢
  refine ⟨_, rfl, 1, rfl, t, _, rfl, SqT.of (s1 _ _ ht), by show ¬ (HT.sIx 2 0 (some 1) = 0 ∧ HT.sIx 2 2 none = 2); decide, fun c hc => ?_⟩
  have ecut : cutV [V.str "reduce", V.int d] (some 1) none = [V.int d] := rfl
  rw [ecut]
  have s2 := Same.new (o := .tup [.int d]) hc
  have hc2 : upd H1 c (.tup [.int d]) c = some (.tup [.int d]) := upd_same
  generalize upd H1 c (.tup [.int d]) = H2 at s2 hc2 ⊢
  refine ⟨c, rfl, ⟨_, SqT.of hc2⟩, fun D hD => lc_it (walk_tup (xs := [.int d])) (fun i H' => Same H2 H' ∧ H' D = some (.lst ([.int d].take i))) ⟨Same.new hD, upd_same⟩ (fun i H' _ h => SqT.of (h.1 _ _ hc2)) ?_ ?_⟩
  · rintro i x H3 H4 hi ⟨s3, h3⟩ ⟨rfl, hx⟩
    have i0 : i = 0 := by
      have : i < 1 := hi
      omega
    subst i0
    obtain rfl : V.int d = x := Option.some.inj hx
    refine ⟨rfl, _, rfl, _, _, _, _, false, rfl, .ty _, .base (.int _), kit_ty (by decide +kernel), false, rfl, iteF ?_⟩
    exact ⟨_, rfl, _, h3, by show 0 < 16777216; decide, Same.mut s3 hD, upd_same⟩
  · rintro H3 ⟨s3, h3⟩
    have h3' : H3 D = some (.lst [.int d]) := h3
    refine ⟨D, _, rfl, .inl ⟨SqL.of h3', fun l hl => ?_⟩⟩
    have s4 := Same.new (o := .tup [.int d]) hl
    have s14 := Same.trans' s2 (Same.trans' s3 s4)
    refine ⟨u, l, _, _, rfl, rfl, SqT.of (s14 _ _ hu1), SqT.of upd_same, by simp, by show 2 ≤ sizeLine; decide, fun z => (by cases z), fun _ r hr' => ?_⟩
    have sA := Same.trans' s1 s14
    exact k r _ (Same.new' sA hr') (Same.back sA hr') upd_same
abbrev n_binit : List Str := ["self", "web", "gains", "fixed"]
theorem sc_binit : FnScope n_binit n_binit (defScope s_Board_init) := ⟨rfl, rfl, rfl, by decide +kernel, rfl, by decide +kernel, by decide +kernel⟩
def spBinit (K : PySem.W.Frag) : Sp := fun vs H Q _ => vs.length = 4 ∧ ∃ (x dx wa : Addr) (n : Nat) (es : List Edge) (m : Int) (dw : Addr) (ve vf vl : V) (g fx : Addr) (gs : List Int), vs = [.ref x, .ref wa, .ref g, .ref fx] ∧ H x = some (.ins (ga K "Board") dx []) ∧ WebAt K (also no x) H wa n es m dw ve vf vl ∧ WebOk n es m ∧
  H g = some (.lst (gs.map V.int)) ∧ ResAll m gs ∧ gs.length = es.length ∧ NoFix K H fx ∧
  ∀ H' g' f' lg pst, Sx x H H' → H' x = some (.ins (ga K "Board") dx (bdF wa g' f' lg pst)) → H' g' = some (.lst (gs.map V.int)) → H' f' = some (.lst []) → H' lg = some (.lst []) → H' pst = some (.lst []) →
    H g' = none → H f' = none → H lg = none → H pst = none → g' ≠ lg → g' ≠ pst → f' ≠ lg → f' ≠ pst → lg ≠ pst → Q .non H'
theorem ok_binit0 (T : Tx K mg) {fd : FuncData} (F : FunD K "__init__" "Board.__init__" (defArgs s_Board_init) (defBody s_Board_init) (defScope s_Board_init) [] [("fixed", V.ref ((kwdAt ("Board", some "__init__") "fixed") K))] (ma K (ga K "Board") "__init__") fd) :
    FnOk P w K mg base CX0 7 (ma K (ga K "Board") "__init__") fd n_binit (spBinit K) := by
  have G1 : Gd P w K mg base 6 (ga K "check_gains") ["web", "gains"] (spChkGains K) := ok_chk_gains T
  have G2 : Gd P w K mg base 6 (ga K "check_fixed") ["web", "fixed"] (spChkFixed K) := (ok_chk_fixed T).mono (by decide)
  refine fnok_of F sc_binit (fun _ _ _ _ h => h.1) (fun cdv A outer s H vs Q E hr h => ?_)
  obtain ⟨_, x, dx, wa, n, es, m, dw, ve, vf, vl, g, fx, gs, rfl, hx, S, O, hg, ra, ge, nf, k⟩ := h
  have nd := sc_binit.nd
  have o1 := O.l
  refine ⟨_, pss_cons (ps_expr (pe_callG G1 hr rfl T.g_check_gains (pa_cons (pv 1) (pa_cons (pv 2) pa_nil))))
    (pss_cons (ps_expr (pe_callG G2 hr rfl T.g_check_fixed (pa_cons (pv 1) (pa_cons (pv 3) pa_nil))))
    (pss_cons (ps_fld (pv 0) (pv 1) rfl)
    (pss_cons (ps_fld (pv 0) (pe_callTy call_list_of (by rfl) T.n_list (by decide +kernel) (pa_cons (pv 2) pa_nil)) rfl)
    (pss_cons (ps_fld (pv 0) (pe_callB cr_sorted0 (by rfl) T.n_sorted (by decide +kernel) (pa_cons (pv 3) pa_nil)) rfl)
    (pss_cons (ps_fld (pv 0) (pe_lst pa_nil) rfl)
    (pss_one (ps_fld (pv 0) (pe_lst pa_nil) rfl))))))), ?_⟩
  refine ⟨_, rfl, _, rfl, rfl, also no x, wa, n, es, m, dw, ve, vf, vl, g, gs, rfl, S, hg, ra, ge, by omega, fun H1 s1 => ?_⟩
  refine ⟨_, rfl, _, rfl, rfl, wa, fx, rfl, nf.imp (s1 _ _) id, fun H2 s2 => ?_⟩
  have s12 := Same.trans' s1 s2
  have hx2 := s12 _ _ hx
  have ngx : g ≠ x := ne_of hg hx (by intro z; cases z)
  refine ⟨_, rfl, _, rfl, x, _, dx, _, rfl, hx2, T.c_Board, T.a_Board_own_web, by show 0 < 1000; decide, ?_⟩
  have S3 : Sx x H (upd H2 x (.ins (ga K "Board") dx (putF "own_web" (.ref wa) []))) := ((Sx.refl ⟨_, hx⟩).same s12).upd
  have hx3 : upd H2 x (.ins (ga K "Board") dx (putF "own_web" (.ref wa) [])) x = some (.ins (ga K "Board") dx [("own_web", .ref wa)]) := upd_same
  generalize upd H2 x (.ins (ga K "Board") dx (putF "own_web" (.ref wa) [])) = H3 at S3 hx3 ⊢
  refine ⟨_, rfl, g, _, rfl, .inl (SqL.of (S3.1 _ _ ngx hg)), fun g' hg' => ?_⟩
  have hg0 := S3.fresh hg'
  have s4 := Same.new (o := .lst (gs.map V.int)) hg'
  have hg4 : upd H3 g' (.lst (gs.map V.int)) g' = some (.lst (gs.map V.int)) := upd_same
  generalize upd H3 g' (.lst (gs.map V.int)) = H4 at s4 hg4 ⊢
  have S4 := S3.same s4
  refine ⟨_, rfl, x, _, dx, _, rfl, s4 _ _ hx3, T.c_Board, T.a_Board_own_gains, by show 1 < 1000; decide, ?_⟩
  have S5 : Sx x H4 (upd H4 x (.ins (ga K "Board") dx (putF "own_gains" (.ref g') [("own_web", .ref wa)]))) := (Sx.refl ⟨_, s4 _ _ hx3⟩).upd
  have hx5 : upd H4 x (.ins (ga K "Board") dx (putF "own_gains" (.ref g') [("own_web", .ref wa)])) x = some (.ins (ga K "Board") dx [("own_web", .ref wa), ("own_gains", .ref g')]) := upd_same
  generalize upd H4 x (.ins (ga K "Board") dx (putF "own_gains" (.ref g') [("own_web", .ref wa)])) = H5 at S5 hx5 ⊢
  have g'x : g' ≠ x := fun z => by rw [z, hx] at hg0; cases hg0
  have hg5 := S5.1 _ _ g'x hg4
  have S05 := S4.trans S5
  refine ⟨_, rfl, fx, rfl, ?_, fun f' hf' => ?_⟩
  · rcases nf with nf | nf
    · exact .inl (SqL.of (S05.1 _ _ (ne_of nf hx (by intro z; cases z)) nf))
    · exact .inr (emptyT_sq nf).1
  have hf0 := S05.fresh hf'
  have f'x : f' ≠ x := fun z => by rw [z, hx] at hf0; cases hf0
  have s6 := Same.new (o := .lst []) hf'
  have hf6 : upd H5 f' (.lst []) f' = some (.lst []) := upd_same
  generalize upd H5 f' (.lst []) = H6 at s6 hf6 ⊢
  have S06 := S05.same s6
  refine ⟨_, rfl, x, _, dx, _, rfl, s6 _ _ hx5, T.c_Board, T.a_Board_own_fixed, by show 2 < 1000; decide, ?_⟩
  have S7 : Sx x H6 (upd H6 x (.ins (ga K "Board") dx (putF "own_fixed" (.ref f') [("own_web", .ref wa), ("own_gains", .ref g')]))) := (Sx.refl ⟨_, s6 _ _ hx5⟩).upd
  have hx7 : upd H6 x (.ins (ga K "Board") dx (putF "own_fixed" (.ref f') [("own_web", .ref wa), ("own_gains", .ref g')])) x = some (.ins (ga K "Board") dx [("own_web", .ref wa), ("own_gains", .ref g'), ("own_fixed", .ref f')]) := upd_same
  generalize upd H6 x (.ins (ga K "Board") dx (putF "own_fixed" (.ref f') [("own_web", .ref wa), ("own_gains", .ref g')])) = H7 at S7 hx7 ⊢
  have hg7 := S7.1 _ _ g'x (s6 _ _ hg5)
  have hf7 := S7.1 _ _ f'x hf6
  have S07 := S06.trans S7
  refine ⟨by decide, fun lg hlg => ?_⟩
  have hl0 := S07.fresh hlg
  have lgx : lg ≠ x := fun z => by rw [z, hx] at hl0; cases hl0
  have n1 : g' ≠ lg := ne_of_none hg7 hlg
  have n2 : f' ≠ lg := ne_of_none hf7 hlg
  have s8 := Same.new (o := .lst []) hlg
  have hl8 : upd H7 lg (.lst []) lg = some (.lst []) := upd_same
  generalize upd H7 lg (.lst []) = H8 at s8 hl8 ⊢
  have S08 := S07.same s8
  refine ⟨_, rfl, x, _, dx, _, rfl, s8 _ _ hx7, T.c_Board, T.a_Board_own_log, by show 3 < 1000; decide, ?_⟩
  have S9 : Sx x H8 (upd H8 x (.ins (ga K "Board") dx (putF "own_log" (.ref lg) [("own_web", .ref wa), ("own_gains", .ref g'), ("own_fixed", .ref f')]))) := (Sx.refl ⟨_, s8 _ _ hx7⟩).upd
  have hx9 : upd H8 x (.ins (ga K "Board") dx (putF "own_log" (.ref lg) [("own_web", .ref wa), ("own_gains", .ref g'), ("own_fixed", .ref f')])) x = some (.ins (ga K "Board") dx [("own_web", .ref wa), ("own_gains", .ref g'), ("own_fixed", .ref f'), ("own_log", .ref lg)]) := upd_same
  generalize upd H8 x (.ins (ga K "Board") dx (putF "own_log" (.ref lg) [("own_web", .ref wa), ("own_gains", .ref g'), ("own_fixed", .ref f')])) = H9 at S9 hx9 ⊢
  have hg9 := S9.1 _ _ g'x (s8 _ _ hg7)
  have hf9 := S9.1 _ _ f'x (s8 _ _ hf7)
  have hl9 := S9.1 _ _ lgx hl8
  have S09 := S08.trans S9
  refine ⟨by decide, fun pst hpst => ?_⟩
  have hp0 := S09.fresh hpst
  have psx : pst ≠ x := fun z => by rw [z, hx] at hp0; cases hp0
  have n3 : g' ≠ pst := ne_of_none hg9 hpst
  have n4 : f' ≠ pst := ne_of_none hf9 hpst
  have n5 : lg ≠ pst := ne_of_none hl9 hpst
  have s10 := Same.new (o := .lst []) hpst
  have hp10 : upd H9 pst (.lst []) pst = some (.lst []) := upd_same
  generalize upd H9 pst (.lst []) = H10 at s10 hp10 ⊢
  refine ⟨_, rfl, x, _, dx, _, rfl, s10 _ _ hx9, T.c_Board, T.a_Board_past, by show 4 < 1000; decide, ?_⟩
  have S11 : Sx x H10 (upd H10 x (.ins (ga K "Board") dx (putF "past" (.ref pst) [("own_web", .ref wa), ("own_gains", .ref g'), ("own_fixed", .ref f'), ("own_log", .ref lg)]))) := (Sx.refl ⟨_, s10 _ _ hx9⟩).upd
  exact k _ g' f' lg pst ((S09.same s10).trans S11) upd_same (S11.1 _ _ g'x (s10 _ _ hg9)) (S11.1 _ _ f'x (s10 _ _ hf9)) (S11.1 _ _ lgx (s10 _ _ hl9)) (S11.1 _ _ psx hp10) hg0 hf0 hl0 hp0 n1 n3 n2 n4 n5
theorem ok_binitD (T : Tx K mg) : GdD P w K mg base 7 (ma K (ga K "Board") "__init__") n_binit (spBinit K) [V.ref (kwdAt ("Board", some "__init__") "fixed" K)] := by
  obtain ⟨fd, F⟩ := T.f_Board_init
  obtain ⟨ds, vd, kb⟩ := F.binds0 (ps := n_binit) 3 (by simp) rfl
    (fun D doc pm an cdv ct us ks h1 h2 => match us, ks, h1, h2 with | [_, _, _], [_], _, _ => ⟨_, _, _, _, _, _, rfl, rfl, rfl⟩)
  exact ⟨⟨fd, ds, ok_binit0 T F, vd, kb⟩, F.kp⟩
theorem ok_binitK (T : Tx K mg) : GdK P w K mg base 7 (ma K (ga K "Board") "__init__") n_binit (spBinit K) 3 ["fixed"] (fun vs zs => vs ++ zs) := by
  obtain ⟨fd, F⟩ := T.f_Board_init
  obtain ⟨mv, kb⟩ := F.kbinds0 (ps := n_binit) 3 ["fixed"] [] (fun us _ ws => us ++ ws) (by simp) (fun q h => absurd h List.not_mem_nil) (fun r1 _ r4 => r1.append r4)
    (fun D doc pm an cdv ct us mv ws h1 h3 h4 => match us, mv, ws, h1, h3, h4 with | [_, _, _], [], [_], _, _, _ => rfl)
  exact ⟨⟨fd, _, ok_binit0 T F, kb⟩, F.kp⟩
theorem WebAt.sx {M : Ms} {H H' : Hp} {a x : Addr} {n : Nat} {es : List Edge} {m : Int} {dx : Addr} {ve vf vl : V} (h : WebAt K M H a n es m dx ve vf vl) (s : Sx x H H') (mx : M x) (ne : a ≠ x) : WebAt K M H' a n es m dx ve vf vl :=
  ⟨s.1 _ _ ne h.at_, h.e.sx s mx, h.f.sx s mx, h.l.sx s mx⟩
abbrev n_dored : List Str := ["self", "modulus", "web", "gain"]
theorem sc_dored : FnScope n_dored ["self", "modulus"] (defScope s_Board_do_reduce) := ⟨rfl, rfl, rfl, by decide +kernel, rfl, by decide +kernel, by decide +kernel⟩
def spDored (K : PySem.W.Frag) : Sp := fun vs H Q _ => vs.length = 2 ∧ ∃ (M : Ms) (x dx : Addr) (d : Int) (wa g f lg pst : Addr) (n : Nat) (es : List Edge) (m : Int) (dw : Addr) (ve vf vl : V) (gs : List Int), vs = [.ref x, .int d] ∧ H x = some (.ins (ga K "Board") dx (bdF wa g f lg pst)) ∧
  M x ∧ MOk M H ∧ WebAt K M H wa n es m dw ve vf vl ∧ WebOk n es m ∧ H g = some (.lst (gs.map V.int)) ∧ gs.length = es.length ∧ 2 ≤ d ∧ d ≤ 60 ∧ m % d = 0 ∧
  ∀ H' wa' g' dw' ve' vf' vl', Sx x H H' → H' x = some (.ins (ga K "Board") dx (bdF wa' g' f lg pst)) → WebAt K M H' wa' n es d dw' ve' vf' vl' → H wa' = none → H g' = none → H' g' = some (.lst ((gs.map fun i => red i d).map V.int)) → Q .non H'
theorem webOk_red {n : Nat} {es : List Edge} {m d : Int} (O : WebOk n es m) (h2 : 2 ≤ d) (h60 : d ≤ 60) : WebOk n es d := ⟨O.n1, O.n30, O.e, O.l, by omega, h60, by omega⟩
theorem ok_dored (T : Tx K mg) : Gd P w K mg base 7 (ma K (ga K "Board") "do_reduce") ["self", "modulus"] (spDored K) := by
  have G1 : Gd P w K mg base 6 (ga K "is_within") ["thing", "least", "most"] spIsWithin := (ok_is_within T).mono (by decide)
  have G2 : Gd P w K mg base 6 (ma K (ga K "Web") "modulus") ["self"] (spWmod K) := (ok_wmod T).mono (by decide)
  have G3 : Gd P w K mg base 6 (ma K (ga K "Web") "size") ["self"] (spWsize K) := (ok_wsize T).mono (by decide)
  have G4 : Gd P w K mg base 6 (ma K (ga K "Web") "edges") ["self"] (spWedges K) := (ok_wedges T).mono (by decide)
  have G5 : Gd P w K mg base 6 (ga K "residue") ["web", "number"] (spResidue K) := (ok_residue T).mono (by decide)
  have G6 : GdK P w K mg base 5 (ma K (ga K "Web") "__init__") n_winit (spWinit K) 3 ["modulus"] (fun vs zs => vs ++ zs) := ok_winit T
  obtain ⟨t60, h60⟩ := T.i_MOST_MODULUS
  refine gd_of T.f_Board_do_reduce sc_dored (fun _ _ _ _ _ _ us hl => match us, hl with | [_, _], _ => rfl) (fun _ _ _ _ h => h.1) (fun cdv A outer s H vs Q E hr h => ?_)
  obtain ⟨_, M, x, dx, d, wa, g, f, lg, pst, n, es, m, dw, ve, vf, vl, gs, rfl, hx, mx, mok, S, O, hg, ge, d2, d60, dm, k⟩ := h
  have nd := sc_dored.nd
  have o1 := O.l
  refine ⟨_, pss_cons (ps_set (i := 2) nd rfl (Or.inl rfl) (pe_fld (pv 0) rfl))
    (pss_cons (ps_if (PW.pt (pw_or (pt_not (pt_val (pe_callG G1 hr rfl T.g_is_within (pa_cons (pv 1) (pa_cons pe_int (pa_cons (pe_glob (v := .int 60) rfl h60 ⟨_, rfl⟩) pa_nil)))))) (pw_or1 (pt_cmpR op_ne (pe_op op_mod (pe_methG0 (pv 2) T.c_Web T.m_Web_modulus G2 hr) (pv 1)) pe_int (nomark _))))) pss_never pss_nil)
    (pss_cons (ps_fld (pv 0) (pe_makeKG T.k_Web G6 hr rfl T.g_Web (pa_cons (pe_methG0 (pv 2) T.c_Web T.m_Web_size G3 hr) (pa_cons (pe_methG0 (pv 2) T.c_Web T.m_Web_edges G4 hr) pa_nil)) (pk_cons (pv 1) pk_nil)) rfl)
    (pss_one (ps_fld (pv 0) (pe_lc (own := [("gain", 3)]) (g := gName 3) (tt := tYes) (te := tCall (spResidue K) [] E0 (tCons (tFld K (tVar 0) "own_web") (tCons (tVar 3) tNil))) rfl nd (pi_list (pe_fld (pv 0) rfl)) (blkOk_by (N := n_dored) (sc := defScope s_Board_do_reduce) (by decide +kernel))
      (fun _ _ _ _ _ => pg_name (i := 3) nd rfl (Or.inl rfl)) (fun _ _ _ _ _ => pts_nil) (fun _ _ _ _ _ => pe_callG G5 hr rfl T.g_residue (pa_cons (pe_fld (pv 0) rfl) (pa_cons (pv 3) pa_nil)))) rfl)))), ?_⟩
  have ngx : g ≠ x := ne_of hg hx (by intro z; cases z)
  refine ⟨_, rfl, x, _, dx, _, .ref wa, rfl, hx, T.c_Board, T.a_Board_own_web, rfl, ?_⟩
  refine ⟨_, rfl, rfl, d, 2, 60, rfl, true, ?_, iteF ?_⟩
  · have e : (decide (2 ≤ d) && decide (d ≤ 60)) = true := by simp; omega
    rw [e]
  refine ⟨_, rfl, wa, dw, _, rfl, S.at_, rfl, rfl, M, wa, n, es, m, dw, ve, vf, vl, rfl, S, _, rfl, _, _, rfl, rfl, by show 0 < d; omega, rfl, _, rfl, iteN (by show (!decide (V.int (m % d) = V.int 0)) = false; rw [dm]; rfl) ?_⟩
  refine ⟨_, rfl, wa, dw, _, rfl, S.at_, rfl, rfl, M, wa, n, es, m, dw, ve, vf, vl, rfl, S, ?_⟩
  refine ⟨_, rfl, wa, dw, _, rfl, S.at_, rfl, rfl, M, wa, n, es, m, dw, ve, vf, vl, rfl, mok, S, fun r H1 s1 dE => ?_⟩
  refine ⟨_, rfl, rfl, rfl, fun y dy hy hdy ne => ?_⟩
  have s2 : Same H1 (upd (upd H1 dy (.own y)) y (.ins (ga K "Web") dy [])) := Same.new' (Same.new hdy) (by rw [upd_ne ne.symm]; exact hy)
  have hy0 := Same.back s1 hy
  have hx1 := s1 _ _ hx
  have xy : x ≠ y := fun z => by rw [← z, hx1] at hy; cases hy
  have mo1 : MOk M H1 := mok.same s1
  have mo : MOk (also M y) (upd (upd H1 dy (.own y)) y (.ins (ga K "Web") dy [])) := (mo1.same s2).also upd_same
  refine ⟨rfl, also M y, y, dy, n, d, r, es, rfl, upd_same, .inr rfl, mo, (dE.also hy).same s2, webOk_red O d2 d60, fun H3 ve' vf' vl' sy SW => ⟨rfl, ?_⟩⟩
  have ney : ∀ b o, H b = some o → b ≠ y := fun b o e z => by rw [z, hy0] at e; cases e
  have sH : Same H H3 := fun b o e => sy.1 b o (ney b o e) (s2 _ _ (s1 _ _ e))
  have hx3 := sH _ _ hx
  refine ⟨_, rfl, x, _, dx, _, rfl, hx3, T.c_Board, T.a_Board_own_web, by show 5 < 1000; decide, ?_⟩
  have S4 : Sx x H3 (upd H3 x (.ins (ga K "Board") dx (putF "own_web" (.ref y) (bdF wa g f lg pst)))) := (Sx.refl ⟨_, hx3⟩).upd
  have hx4 : upd H3 x (.ins (ga K "Board") dx (putF "own_web" (.ref y) (bdF wa g f lg pst))) x = some (.ins (ga K "Board") dx (bdF y g f lg pst)) := upd_same
  generalize upd H3 x (.ins (ga K "Board") dx (putF "own_web" (.ref y) (bdF wa g f lg pst))) = H4 at S4 hx4 ⊢
  have SW4 := SW.sx S4 (.inl mx) xy.symm
  have hg4 := S4.1 _ _ ngx (sH _ _ hg)
  refine ⟨_, rfl, x, _, dx, _, .ref g, rfl, hx4, T.c_Board, T.a_Board_own_gains, rfl, g, rfl, ⟨_, SqL.of hg4⟩, fun D hD => lc_it (walk_list (xs := gs.map V.int)) (fun i H' => Same H4 H' ∧ H' D = some (.lst (((gs.take i).map fun i => red i d).map V.int))) ⟨Same.new hD, upd_same⟩ (fun i H' _ h => SqL.of (h.1 _ _ hg4)) ?_ ?_⟩
  · rintro i z H5 H6 hi ⟨s5, h5⟩ ⟨rfl, hz⟩
    obtain ⟨hi', rfl⟩ := ints_get hz
    refine ⟨rfl, _, rfl, x, _, dx, _, .ref y, rfl, s5 _ _ hx4, T.c_Board, T.a_Board_own_web, rfl, _, rfl, rfl, _, y, n, es, d, dy, ve', vf', vl', _, rfl, SW4.same s5, ?_⟩
    refine ⟨_, h5, by simp; show _ < 16777216; omega, Same.mut s5 hD, ?_⟩
    rw [upd_same, ints_snoc, take_next gs i 0 hi', List.map_append]
    rw [List.map_append, List.map_append]; rfl
  · rintro H5 ⟨s5, h5⟩
    rw [List.length_map, List.take_of_length_le (Nat.le_refl _)] at h5
    have hx5 := s5 _ _ hx4
    refine ⟨_, rfl, x, _, dx, _, rfl, hx5, T.c_Board, T.a_Board_own_gains, by show 5 < 1000; decide, ?_⟩
    have S6 : Sx x H5 (upd H5 x (.ins (ga K "Board") dx (putF "own_gains" (.ref D) (bdF y g f lg pst)))) := (Sx.refl ⟨_, hx5⟩).upd
    have hD0 : H D = none := by
      cases e : H D with
      | none => rfl
      | some o =>
        by_cases z : D = x
        · rw [z, hx4] at hD; cases hD
        · rw [S4.1 _ _ z (sH _ _ e)] at hD; cases hD
    have nDx : D ≠ x := fun z => by rw [z, hx4] at hD; cases hD
    have sx6 : Sx x H (upd H5 x (.ins (ga K "Board") dx (putF "own_gains" (.ref D) (bdF y g f lg pst)))) := (((Sx.refl ⟨_, hx⟩).same sH).trans S4 |>.same s5).trans S6
    have SW6 := (SW4.same s5).sx S6 (.inl mx) xy.symm
    exact k _ y D dy ve' vf' vl' sx6 upd_same (SW6.less fun b h => .inl h) hy0 hD0 (S6.1 _ _ nDx h5)
end
end Tt
set_option Elab.async false
set_option linter.all false
set_option maxRecDepth 100000
set_option maxHeartbeats 4000000
/-! boards: the methods -/
namespace Tt
open PySem PySem.Spec PyProof.Rows L2 He
def Bd (x lg pst : Addr) : Ms := fun a => a = x ∨ a = lg ∨ a = pst
def Sb (S : Ms) (H H' : Hp) : Prop := ∀ b o, ¬ S b → H b = some o → H' b = some o
section
variable {S M : Ms} {H H' H'' : Hp} {v : V} {d : PyData} {K : PySem.W.Frag}
theorem Same.sb (s : Same H H') : Sb S H H' := fun b o _ e => s b o e
theorem Sx.sb {x : Addr} (s : Sx x H H') (m : S x) : Sb S H H' := fun b o n e => s.1 b o (fun z => n (z ▸ m)) e
theorem Sb.trans (s : Sb S H H') (k : Sb S H' H'') : Sb S H H'' := fun b o n e => k b o n (s b o n e)
theorem Sb.upd {a : Addr} {o : HO} (s : Sb S H H') (m : S a) : Sb S H (upd H' a o) := fun b u n e => by rw [upd_ne (fun z => n (by rw [z]; exact m))]; exact s b u n e
theorem Dd.sb (h : Dd M H v d) (s : Sb S H H') (m : ∀ a, S a → M a) : Dd M H' v d := Dd.move (fun a o n e => ⟨n, s a o (fun z => n (m a z)) e⟩) d v h
theorem WebAt.sb {a : Addr} {n : Nat} {es : List Edge} {m : Int} {dx : Addr} {ve vf vl : V} (h : WebAt K M H a n es m dx ve vf vl) (s : Sb S H H') (k : ∀ a, S a → M a) (ne : ¬ S a) : WebAt K M H' a n es m dx ve vf vl :=
  ⟨s _ _ ne h.at_, h.e.sb s k, h.f.sb s k, h.l.sb s k⟩
end
section
variable {P : Program} {w : World} {K : PySem.W.Frag} {mg : Str → Option Value} {base : Heap}
abbrev n_perf : List Str := ["self", "entry", "word", "given"]
theorem sc_perf : FnScope n_perf ["self", "entry"] (defScope s_Board_perform) := ⟨rfl, rfl, rfl, by decide +kernel, rfl, by decide +kernel, by decide +kernel⟩
def spPerf (K : PySem.W.Frag) : Sp := fun vs H Q E => vs.length = 2 ∧ ∃ (x t : Addr) (d : Int), vs = [.ref x, .ref t] ∧ H t = some (.tup [.str "reduce", .int d]) ∧ ∃ (M : Ms) (dx : Addr) (wa g f lg pst : Addr) (n : Nat) (es : List Edge) (m : Int) (dw : Addr) (ve vf vl : V) (gs : List Int), H x = some (.ins (ga K "Board") dx (bdF wa g f lg pst)) ∧
  M x ∧ MOk M H ∧ WebAt K M H wa n es m dw ve vf vl ∧ WebOk n es m ∧ H g = some (.lst (gs.map V.int)) ∧ gs.length = es.length ∧ 2 ≤ d ∧ d ≤ 60 ∧ m % d = 0 ∧
  ∀ H' wa' g' dw' ve' vf' vl', Sx x H H' → H' x = some (.ins (ga K "Board") dx (bdF wa' g' f lg pst)) → WebAt K M H' wa' n es d dw' ve' vf' vl' → H wa' = none → H g' = none → H' g' = some (.lst ((gs.map fun i => red i d).map V.int)) → Q .non H'
theorem ok_perf (T : Tx K mg) : Gd P w K mg base 8 (ma K (ga K "Board") "perform") ["self", "entry"] (spPerf K) := by
  have G1 : Gd P w K mg base 7 (ma K (ga K "Board") "do_reduce") ["self", "modulus"] (spDored K) := ok_dored T
  refine gd_of T.f_Board_perform sc_perf (fun _ _ _ _ _ _ us hl => match us, hl with | [_, _], _ => rfl) (fun _ _ _ _ h => h.1) (fun cdv A outer s H vs Q E hr h => ?_)
  obtain ⟨_, x, t, d, rfl, ht, M, dx, wa, g, f, lg, pst, n, es, m, dw, ve, vf, vl, gs, hx, mx, mok, S, O, hg, ge, d2, d60, dm, k⟩ := h
  have nd := sc_perf.nd
  refine ⟨_, pss_cons (ps_asg (pv 1) (pg_star1 rfl (pg_name (i := 2) nd rfl (Or.inl rfl)) (pg_name (i := 3) nd rfl (Or.inl rfl))))
    (pss_cons (ps_if (pt_cmpR op_eq (pv 2) pe_str (nomark _)) pss_never pss_nil)
    (pss_cons (ps_if (pt_cmpR op_eq (pv 2) pe_str (nomark _)) pss_never pss_nil)
    (pss_cons (ps_if (pt_cmpR op_eq (pv 2) pe_str (nomark _)) pss_never pss_nil)
    (pss_cons (ps_if (pt_cmpR op_eq (pv 2) pe_str (nomark _)) pss_never pss_nil)
    (pss_cons (ps_if (pt_cmpR op_eq (pv 2) pe_str (nomark _)) pss_never pss_nil)
    (pss_cons (ps_if (pt_cmpR op_eq (pv 2) pe_str (nomark _)) pss_never pss_nil)
    (pss_cons (ps_if (pt_cmpR op_eq (pv 2) pe_str (nomark _)) pss_never pss_nil)
    (pss_one (ps_ret (pe_ifExp (pt_cmpR op_eq (pv 2) pe_str (nomark _)) pe_no (pe_methG (pv 0) T.c_Board T.m_Board_do_reduce G1 hr (pa_cons (pe_ix ix_list (pv 3) pe_int (fun _ _ => rfl)) pa_nil)))))))))))), ?_⟩
  refine ⟨_, rfl, t, _, _, rfl, SqT.of ht, fun l hl => ?_⟩
  have s1 := Same.new (o := .lst [.int d]) hl
  have hl1 : upd H l (.lst [.int d]) l = some (.lst [.int d]) := upd_same
  generalize upd H l (.lst [.int d]) = H1 at s1 hl1 ⊢
  refine ⟨_, rfl, rfl, _, rfl, iteN (by decide) ?_⟩
  refine ⟨_, rfl, rfl, _, rfl, iteN (by decide) ?_⟩
  refine ⟨_, rfl, rfl, _, rfl, iteN (by decide) ?_⟩
  refine ⟨_, rfl, rfl, _, rfl, iteN (by decide) ?_⟩
  refine ⟨_, rfl, rfl, _, rfl, iteN (by decide) ?_⟩
  refine ⟨_, rfl, rfl, _, rfl, iteN (by decide) ?_⟩
  refine ⟨_, rfl, rfl, _, rfl, iteN (by decide) ?_⟩
  refine ⟨_, rfl, rfl, _, rfl, iteN (by decide) ?_⟩
  have hx1 := s1 _ _ hx
  refine ⟨_, rfl, x, dx, _, rfl, hx1, rfl, _, rfl, l, _, _, .int d, rfl, rfl, SqL.of hl1, rfl, rfl, M, x, dx, d, wa, g, f, lg, pst, n, es, m, dw, ve, vf, vl, gs, rfl, hx1, mx, mok.same s1, S.same s1, O, s1 _ _ hg, ge, d2, d60, dm, fun H2 wa' g' dw' ve' vf' vl' sx h1 h2 h3 h4 h5 => ?_⟩
  exact k H2 wa' g' dw' ve' vf' vl' (((Sx.refl ⟨_, hx⟩).same s1).trans sx) h1 h2 (Same.back s1 h3) (Same.back s1 h4) h5
theorem sc_state : FnScope ["self"] ["self"] (defScope s_Board_state) := ⟨rfl, rfl, rfl, by decide +kernel, rfl, by decide +kernel, by decide +kernel⟩
def spState (K : PySem.W.Frag) : Sp := fun vs H Q _ => vs.length = 1 ∧ ∃ (x dx wa g f lg pst : Addr), vs = [.ref x] ∧ H x = some (.ins (ga K "Board") dx (bdF wa g f lg pst)) ∧ ∀ t, H t = none → Q (.ref t) (upd H t (.tup [.ref wa, .ref g, .ref f]))
theorem ok_state (T : Tx K mg) : Gd P w K mg base 1 (ma K (ga K "Board") "state") ["self"] (spState K) := by
  refine gd_of T.f_Board_state sc_state (fun _ _ _ _ _ _ us hl => match us, hl with | [_], _ => rfl) (fun _ _ _ _ h => h.1) (fun cdv A outer s H vs Q E hr h => ?_)
  obtain ⟨_, x, dx, wa, g, f, lg, pst, rfl, hx, k⟩ := h
  refine ⟨_, pss_one (ps_ret (pe_tup (pa_cons (pe_fld (pv 0) rfl) (pa_cons (pe_fld (pv 0) rfl) (pa_cons (pe_fld (pv 0) rfl) pa_nil))))), ?_⟩
  exact ⟨_, rfl, x, _, dx, _, .ref wa, rfl, hx, T.c_Board, T.a_Board_own_web, rfl, _, rfl, x, _, dx, _, .ref g, rfl, hx, T.c_Board, T.a_Board_own_gains, rfl, _, rfl, x, _, dx, _, .ref f, rfl, hx, T.c_Board, T.a_Board_own_fixed, rfl, by show 3 ≤ sizeLine; decide, fun t ht => k t ht⟩
def LogOk (H : Hp) (logs : List V) : Prop := ∀ v, v ∈ logs → ∃ t d, v = .ref t ∧ H t = some (.tup [.str "reduce", .int d])
abbrev n_act : List Str := ["self", "entry", "before", "result"]
theorem sc_act : FnScope n_act ["self", "entry"] (defScope s_Board_act) := ⟨rfl, rfl, rfl, by decide +kernel, rfl, by decide +kernel, by decide +kernel⟩
/-- what a reduction leaves -/
def RedPost (K : PySem.W.Frag) (H : Hp) (x dx wa g f lg pst : Addr) (n : Nat) (es : List Edge) (gs : List Int) (d : Int) (logs pasts : List V) (Q : VK) : Prop :=
  ∀ H' wa' g' dw' ve' vf' vl' t tl, Sb (Bd x lg pst) H H' → H' x = some (.ins (ga K "Board") dx (bdF wa' g' f lg pst)) → WebAt K (Bd x lg pst) H' wa' n es d dw' ve' vf' vl' → H wa' = none → H g' = none → H' g' = some (.lst ((gs.map fun i => red i d).map V.int)) →
    H' lg = some (.lst (logs ++ [.ref tl])) → H' tl = some (.tup [.str "reduce", .int d]) → H' pst = some (.lst (pasts ++ [.ref t])) → H' t = some (.tup [.ref wa, .ref g, .ref f]) → Q .non H'
structure RedPre (K : PySem.W.Frag) (H : Hp) (x dx wa g f lg pst : Addr) (n : Nat) (es : List Edge) (m : Int) (dw : Addr) (ve vf vl : V) (gs : List Int) (d : Int) (logs pasts : List V) : Prop where
  hx : H x = some (.ins (ga K "Board") dx (bdF wa g f lg pst))
  w : WebAt K (Bd x lg pst) H wa n es m dw ve vf vl
  o : WebOk n es m
  hg : H g = some (.lst (gs.map V.int))
  ng : ¬ Bd x lg pst g
  ge : gs.length = es.length
  d2 : 2 ≤ d
  d60 : d ≤ 60
  dm : m % d = 0
  hl : H lg = some (.lst logs)
  hp : H pst = some (.lst pasts)
  ll : logs.length ≤ 1000
  pl : pasts.length ≤ 1000
  ne : lg ≠ pst
def spAct (K : PySem.W.Frag) : Sp := fun vs H Q E => vs.length = 2 ∧ ∃ (x t : Addr), vs = [.ref x, .ref t] ∧ ∃ (dx wa g f lg pst : Addr) (n : Nat) (es : List Edge) (m : Int) (dw : Addr) (ve vf vl : V) (gs : List Int) (d : Int) (logs pasts : List V), H t = some (.tup [.str "reduce", .int d]) ∧
  RedPre K H x dx wa g f lg pst n es m dw ve vf vl gs d logs pasts ∧ RedPost K H x dx wa g f lg pst n es gs d logs pasts Q
theorem ok_act (T : Tx K mg) : Gd P w K mg base 9 (ma K (ga K "Board") "act") ["self", "entry"] (spAct K) := by
  have G1 : Gd P w K mg base 8 (ma K (ga K "Board") "perform") ["self", "entry"] (spPerf K) := ok_perf T
  have G2 : Gd P w K mg base 8 (ma K (ga K "Board") "state") ["self"] (spState K) := (ok_state T).mono (by decide)
  have G3 : Gd P w K mg base 8 (ga K "copied") ["entry"] spCop := (ok_cop T).mono (by decide)
  refine gd_of T.f_Board_act sc_act (fun _ _ _ _ _ _ us hl => match us, hl with | [_, _], _ => rfl) (fun _ _ _ _ h => h.1) (fun cdv A outer s H vs Q E hr h => ?_)
  obtain ⟨_, x, t, rfl, dx, wa, g, f, lg, pst, n, es, m, dw, ve, vf, vl, gs, d, logs, pasts, ht, R, k⟩ := h
  have nd := sc_act.nd
  refine ⟨_, pss_cons (ps_set (i := 2) nd rfl (Or.inl rfl) (pe_methG0 (pv 0) T.c_Board T.m_Board_state G2 hr))
    (pss_cons (ps_set (i := 3) nd rfl (Or.inl rfl) (pe_methG (pv 0) T.c_Board T.m_Board_perform G1 hr (pa_cons (pv 1) pa_nil)))
    (pss_cons (ps_expr (pe_bm PySem.F.plainAttrs_list PySem.F.slot_list_append PySem.F.type_list_append mt_append (pe_fld (pv 0) rfl) (pa_cons (pv 2) pa_nil)))
    (pss_cons (ps_expr (pe_bm PySem.F.plainAttrs_list PySem.F.slot_list_append PySem.F.type_list_append mt_append (pe_fld (pv 0) rfl) (pa_cons (pe_callG G3 hr rfl T.g_copied (pa_cons (pv 1) pa_nil)) pa_nil)))
    (pss_one (ps_ret (pv 3)))))), ?_⟩
  have nlx : lg ≠ x := ne_of R.hl R.hx (by intro z; cases z)
  have npx : pst ≠ x := ne_of R.hp R.hx (by intro z; cases z)
  have ntl : t ≠ lg := ne_of ht R.hl (by intro z; cases z)
  have ntp : t ≠ pst := ne_of ht R.hp (by intro z; cases z)
  have ntx : t ≠ x := ne_of ht R.hx (by intro z; cases z)
  have mokB : MOk (Bd x lg pst) H := fun a h => by
    rcases h with rfl | rfl | rfl
    · exact ⟨_, R.hx⟩
    · exact ⟨_, R.hl⟩
    · exact ⟨_, R.hp⟩
  refine ⟨_, rfl, x, dx, _, rfl, R.hx, rfl, rfl, x, dx, wa, g, f, lg, pst, rfl, R.hx, fun b hb => ?_⟩
  have s1 := Same.new (o := .tup [.ref wa, .ref g, .ref f]) hb
  have hb1 : upd H b (.tup [.ref wa, .ref g, .ref f]) b = some (.tup [.ref wa, .ref g, .ref f]) := upd_same
  generalize upd H b (.tup [.ref wa, .ref g, .ref f]) = H1 at s1 hb1 ⊢
  have nbx : b ≠ x := (ne_of_none R.hx hb).symm
  have nbl : b ≠ lg := (ne_of_none R.hl hb).symm
  have nbp : b ≠ pst := (ne_of_none R.hp hb).symm
  have hx1 := s1 _ _ R.hx
  refine ⟨_, rfl, x, dx, _, rfl, hx1, rfl, _, rfl, rfl, x, t, d, rfl, s1 _ _ ht, Bd x lg pst, dx, wa, g, f, lg, pst, n, es, m, dw, ve, vf, vl, gs, hx1, .inl rfl, mokB.same s1, R.w.same s1, R.o, s1 _ _ R.hg, R.ge, R.d2, R.d60, R.dm, fun H2 wa' g' dw' ve' vf' vl' sx hx2 SW h3 h4 h5 => ?_⟩
  have hl2 := sx.1 _ _ nlx (s1 _ _ R.hl)
  have hp2 := sx.1 _ _ npx (s1 _ _ R.hp)
  have hb2 := sx.1 _ _ nbx hb1
  have ht2 := sx.1 _ _ ntx (s1 _ _ ht)
  have sb2 : Sb (Bd x lg pst) H H2 := (Same.sb s1).trans (sx.sb (.inl rfl))
  have wx : wa' ≠ x := fun z => by rw [z, hx1] at h3; cases h3
  have wl : wa' ≠ lg := fun z => by rw [z, s1 _ _ R.hl] at h3; cases h3
  have wp : wa' ≠ pst := fun z => by rw [z, s1 _ _ R.hp] at h3; cases h3
  have gx : g' ≠ x := fun z => by rw [z, hx1] at h4; cases h4
  have gl : g' ≠ lg := fun z => by rw [z, s1 _ _ R.hl] at h4; cases h4
  have gp : g' ≠ pst := fun z => by rw [z, s1 _ _ R.hp] at h4; cases h4
  -- past.append(before)
  refine ⟨_, rfl, x, _, dx, _, .ref pst, rfl, hx2, T.c_Board, T.a_Board_past, rfl, .inl ⟨rfl, _, SqL.of hp2⟩, _, rfl, pst, _, _, rfl, rfl, hp2, by have := R.pl; show _ < 16777216; omega, ?_⟩
  have hx3 : upd H2 pst (.lst (pasts ++ [.ref b])) x = _ := (upd_ne npx.symm).trans hx2
  have hl3 : upd H2 pst (.lst (pasts ++ [.ref b])) lg = _ := (upd_ne R.ne).trans hl2
  have hp3 : upd H2 pst (.lst (pasts ++ [.ref b])) pst = some (.lst (pasts ++ [.ref b])) := upd_same
  have hb3 : upd H2 pst (.lst (pasts ++ [.ref b])) b = _ := (upd_ne nbp).trans hb2
  have ht3 : upd H2 pst (.lst (pasts ++ [.ref b])) t = _ := (upd_ne ntp).trans ht2
  have sb3 : Sb (Bd x lg pst) H2 (upd H2 pst (.lst (pasts ++ [.ref b]))) := Sb.upd (Same.sb Same.rfl') (.inr (.inr rfl))
  generalize upd H2 pst (.lst (pasts ++ [.ref b])) = H3 at hx3 hl3 hp3 hb3 ht3 sb3 ⊢
  -- own_log.append(copied(entry))
  refine ⟨_, rfl, x, _, dx, _, .ref lg, rfl, hx3, T.c_Board, T.a_Board_own_log, rfl, .inl ⟨rfl, _, SqL.of hl3⟩, _, rfl, rfl, t, d, rfl, ht3, fun r H4 s4 nr hr4 => ?_⟩
  have hl4 := s4 _ _ hl3
  refine ⟨lg, _, _, rfl, rfl, hl4, by have := R.ll; show _ < 16777216; omega, ?_⟩
  have nrl : r ≠ lg := fun z => by rw [z, hl3] at nr; cases nr
  have sb5 : Sb (Bd x lg pst) H2 (upd H4 lg (.lst (logs ++ [.ref r]))) := Sb.upd (sb3.trans (Same.sb s4)) (.inr (.inl rfl))
  have nB : ∀ a, a ≠ x → a ≠ lg → a ≠ pst → ¬ Bd x lg pst a := fun a h1 h2 h3 h => h.elim h1 fun h => h.elim h2 h3
  refine ⟨_, rfl, k _ wa' g' dw' ve' vf' vl' b r (sb2.trans sb5) ?_ (SW.sb sb5 (fun _ h => h) (nB _ wx wl wp)) (Same.back s1 h3) (Same.back s1 h4) (sb5 _ _ (nB _ gx gl gp) h5) upd_same ((upd_ne nrl).trans hr4) ?_ ?_⟩
  · exact (upd_ne nlx.symm).trans (s4 _ _ hx3)
  · exact (upd_ne R.ne.symm).trans (s4 _ _ hp3)
  · exact (upd_ne nbl).trans (s4 _ _ hb3)
theorem sc_reduce : FnScope ["self", "modulus"] ["self", "modulus"] (defScope s_Board_reduce) := ⟨rfl, rfl, rfl, by decide +kernel, rfl, by decide +kernel, by decide +kernel⟩
def spReduce (K : PySem.W.Frag) : Sp := fun vs H Q E => vs.length = 2 ∧ ∃ (x : Addr) (d : Int), vs = [.ref x, .int d] ∧ ∃ (dx wa g f lg pst : Addr) (n : Nat) (es : List Edge) (m : Int) (dw : Addr) (ve vf vl : V) (gs : List Int) (logs pasts : List V),
  RedPre K H x dx wa g f lg pst n es m dw ve vf vl gs d logs pasts ∧ RedPost K H x dx wa g f lg pst n es gs d logs pasts Q
theorem RedPre.same {H H' : Hp} {x dx wa g f lg pst : Addr} {n : Nat} {es : List Edge} {m : Int} {dw : Addr} {ve vf vl : V} {gs : List Int} {d : Int} {logs pasts : List V} (R : RedPre K H x dx wa g f lg pst n es m dw ve vf vl gs d logs pasts) (s : Same H H') :
    RedPre K H' x dx wa g f lg pst n es m dw ve vf vl gs d logs pasts := ⟨s _ _ R.hx, R.w.same s, R.o, s _ _ R.hg, R.ng, R.ge, R.d2, R.d60, R.dm, s _ _ R.hl, s _ _ R.hp, R.ll, R.pl, R.ne⟩
theorem ok_reduce (T : Tx K mg) : Gd P w K mg base 10 (ma K (ga K "Board") "reduce") ["self", "modulus"] (spReduce K) := by
  have G1 : Gd P w K mg base 9 (ma K (ga K "Board") "act") ["self", "entry"] (spAct K) := ok_act T
  refine gd_of T.f_Board_reduce sc_reduce (fun _ _ _ _ _ _ us hl => match us, hl with | [_, _], _ => rfl) (fun _ _ _ _ h => h.1) (fun cdv A outer s H vs Q E hr h => ?_)
  obtain ⟨_, x, d, rfl, dx, wa, g, f, lg, pst, n, es, m, dw, ve, vf, vl, gs, logs, pasts, R, k⟩ := h
  refine ⟨_, pss_one (ps_ret (pe_methG (pv 0) T.c_Board T.m_Board_act G1 hr (pa_cons (pe_tup (pa_cons pe_str (pa_cons (pv 1) pa_nil))) pa_nil))), ?_⟩
  refine ⟨_, rfl, x, dx, _, rfl, R.hx, rfl, _, rfl, by show 2 ≤ sizeLine; decide, fun t ht => ?_⟩
  have s1 := Same.new (o := .tup [.str "reduce", .int d]) ht
  refine ⟨rfl, x, t, rfl, dx, wa, g, f, lg, pst, n, es, m, dw, ve, vf, vl, gs, d, logs, pasts, upd_same, R.same s1, fun H' wa' g' dw' ve' vf' vl' t' tl h1 h2 h3 h4 h5 h6 h7 h8 h9 h10 => ?_⟩
  exact k H' wa' g' dw' ve' vf' vl' t' tl ((Same.sb s1).trans h1) h2 h3 (Same.back s1 h4) (Same.back s1 h5) h6 h7 h8 h9 h10
theorem sc_undo : FnScope ["self"] ["self"] (defScope s_Board_undo) := ⟨rfl, rfl, rfl, by decide +kernel, rfl, by decide +kernel, by decide +kernel⟩
def spUndo (K : PySem.W.Frag) : Sp := fun vs H Q E => vs.length = 1 ∧ ∃ (x dx wa g f lg pst t wa0 g0 f0 : Addr) (logs pre : List V), vs = [.ref x] ∧ H x = some (.ins (ga K "Board") dx (bdF wa g f lg pst)) ∧ H lg = some (.lst logs) ∧ logs ≠ [] ∧ H pst = some (.lst (pre ++ [.ref t])) ∧ H t = some (.tup [.ref wa0, .ref g0, .ref f0]) ∧ lg ≠ pst ∧
  ∀ H', Sb (Bd x lg pst) H H' → H' x = some (.ins (ga K "Board") dx (bdF wa0 g0 f0 lg pst)) → Q .non H'
theorem ok_undo (T : Tx K mg) : Gd P w K mg base 1 (ma K (ga K "Board") "undo") ["self"] (spUndo K) := by
  refine gd_of T.f_Board_undo sc_undo (fun _ _ _ _ _ _ us hl => match us, hl with | [_], _ => rfl) (fun _ _ _ _ h => h.1) (fun cdv A outer s H vs Q E hr h => ?_)
  obtain ⟨_, x, dx, wa, g, f, lg, pst, t, wa0, g0, f0, logs, pre, rfl, hx, hl, lne, hp, ht, ne, k⟩ := h
  refine ⟨_, pss_cons (ps_if (pt_not (pt_truth (pe_fld (pv 0) rfl) (fun _ => rfl))) pss_never pss_nil)
    (pss_cons (ps_asg (pe_bm0 PySem.F.plainAttrs_list PySem.F.slot_list_pop PySem.F.type_list_pop mt_pop (pe_fld (pv 0) rfl)) (pg_tup rfl (pgs_cons (pg_fld (pv 0)) (pgs_cons (pg_fld (pv 0)) (pgs_cons (pg_fld (pv 0)) pgs_nil)))))
    (pss_one (ps_expr (pe_bm0 PySem.F.plainAttrs_list PySem.F.slot_list_pop PySem.F.type_list_pop mt_pop (pe_fld (pv 0) rfl))))), ?_⟩
  have nlx : lg ≠ x := ne_of hl hx (by intro z; cases z)
  have npx : pst ≠ x := ne_of hp hx (by intro z; cases z)
  have ntp : t ≠ pst := ne_of ht hp (by intro z; cases z)
  refine ⟨_, rfl, x, _, dx, _, .ref pst, rfl, hx, T.c_Board, T.a_Board_past, rfl, true, .inl ⟨_, SqL.of hp, by simp⟩, iteF ?_⟩
  refine ⟨_, rfl, x, _, dx, _, .ref pst, rfl, hx, T.c_Board, T.a_Board_past, rfl, .inl ⟨rfl, _, SqL.of hp⟩, pst, _, .ref t, rfl, rfl, hp, by simp, ?_⟩
  rw [List.dropLast_concat]
  have hx1 : upd H pst (.lst pre) x = _ := (upd_ne npx.symm).trans hx
  have ht1 : upd H pst (.lst pre) t = _ := (upd_ne ntp).trans ht
  have hl1 : upd H pst (.lst pre) lg = _ := (upd_ne ne).trans hl
  have sb1 : Sb (Bd x lg pst) H (upd H pst (.lst pre)) := Sb.upd (Same.sb Same.rfl') (.inr (.inr rfl))
  generalize upd H pst (.lst pre) = H1 at hx1 ht1 hl1 sb1 ⊢
  refine ⟨t, _, rfl, SqT.of ht1, rfl, _, _, rfl, ?_⟩
  refine ⟨_, rfl, x, _, dx, _, rfl, hx1, T.c_Board, T.a_Board_own_web, by show 5 < 1000; decide, _, _, rfl, ?_⟩
  refine ⟨_, rfl, x, _, dx, _, rfl, upd_same, T.c_Board, T.a_Board_own_gains, by show 5 < 1000; decide, _, _, rfl, ?_⟩
  refine ⟨_, rfl, x, _, dx, _, rfl, upd_same, T.c_Board, T.a_Board_own_fixed, by show 5 < 1000; decide, rfl, ?_⟩
  rw [upd_upd, upd_upd]
  have hx2 : upd H1 x (.ins (ga K "Board") dx (putF "own_fixed" (.ref f0) (putF "own_gains" (.ref g0) (putF "own_web" (.ref wa0) (bdF wa g f lg pst))))) x = some (.ins (ga K "Board") dx (bdF wa0 g0 f0 lg pst)) := upd_same
  have hl2 : upd H1 x (.ins (ga K "Board") dx (putF "own_fixed" (.ref f0) (putF "own_gains" (.ref g0) (putF "own_web" (.ref wa0) (bdF wa g f lg pst))))) lg = _ := (upd_ne nlx).trans hl1
  have sb2 : Sb (Bd x lg pst) H (upd H1 x (.ins (ga K "Board") dx (putF "own_fixed" (.ref f0) (putF "own_gains" (.ref g0) (putF "own_web" (.ref wa0) (bdF wa g f lg pst)))))) := Sb.upd sb1 (.inl rfl)
  generalize upd H1 x (.ins (ga K "Board") dx (putF "own_fixed" (.ref f0) (putF "own_gains" (.ref g0) (putF "own_web" (.ref wa0) (bdF wa g f lg pst))))) = H2 at hx2 hl2 sb2 ⊢
  obtain ⟨y, hy⟩ : ∃ y, logs[logs.length - 1]? = some y := ⟨logs[logs.length - 1]'(by have := List.length_pos_iff.mpr lne; omega), by simp [List.length_pos_iff.mpr lne]⟩
  refine ⟨_, rfl, x, _, dx, _, .ref lg, rfl, hx2, T.c_Board, T.a_Board_own_log, rfl, .inl ⟨rfl, _, SqL.of hl2⟩, lg, _, y, rfl, rfl, hl2, hy, ?_⟩
  exact k _ (Sb.upd sb2 (.inr (.inl rfl))) ((upd_ne nlx.symm).trans hx2)
end
end Tt
set_option Elab.async false
set_option linter.all false
set_option maxRecDepth 100000
set_option maxHeartbeats 4000000
/-! boards: web, gains, log, cycle_sums, transform, twin -/
namespace Tt
open PySem PySem.Spec PyProof.Rows L2 He
section
variable {P : Program} {w : World} {K : PySem.W.Frag} {mg : Str → Option Value} {base : Heap}
theorem sc_bweb : FnScope ["self"] ["self"] (defScope s_Board_web) := ⟨rfl, rfl, rfl, by decide +kernel, rfl, by decide +kernel, by decide +kernel⟩
def spBweb (K : PySem.W.Frag) : Sp := fun vs H Q _ => vs.length = 1 ∧ ∃ (x dx wa g f lg pst : Addr), vs = [.ref x] ∧ H x = some (.ins (ga K "Board") dx (bdF wa g f lg pst)) ∧ Q (.ref wa) H
theorem ok_bweb (T : Tx K mg) : Gd P w K mg base 1 (ma K (ga K "Board") "web") ["self"] (spBweb K) := by
  refine gd_of T.f_Board_web sc_bweb (fun _ _ _ _ _ _ us hl => match us, hl with | [_], _ => rfl) (fun _ _ _ _ h => h.1) (fun cdv A outer s H vs Q E hr h => ?_)
  obtain ⟨_, x, dx, wa, g, f, lg, pst, rfl, hx, k⟩ := h
  refine ⟨_, pss_one (ps_ret (pe_fld (pv 0) rfl)), ?_⟩
  exact ⟨_, rfl, x, _, dx, _, .ref wa, rfl, hx, T.c_Board, T.a_Board_own_web, rfl, k⟩
theorem sc_bgains : FnScope ["self"] ["self"] (defScope s_Board_gains) := ⟨rfl, rfl, rfl, by decide +kernel, rfl, by decide +kernel, by decide +kernel⟩
def spBgains (K : PySem.W.Frag) : Sp := fun vs H Q _ => vs.length = 1 ∧ ∃ (x dx wa g f lg pst : Addr) (gs : List Int), vs = [.ref x] ∧ H x = some (.ins (ga K "Board") dx (bdF wa g f lg pst)) ∧ H g = some (.lst (gs.map V.int)) ∧ ∀ l, H l = none → Q (.ref l) (upd H l (.lst (gs.map V.int)))
theorem ok_bgains (T : Tx K mg) : Gd P w K mg base 1 (ma K (ga K "Board") "gains") ["self"] (spBgains K) := by
  refine gd_of T.f_Board_gains sc_bgains (fun _ _ _ _ _ _ us hl => match us, hl with | [_], _ => rfl) (fun _ _ _ _ h => h.1) (fun cdv A outer s H vs Q E hr h => ?_)
  obtain ⟨_, x, dx, wa, g, f, lg, pst, gs, rfl, hx, hg, k⟩ := h
  refine ⟨_, pss_one (ps_ret (pe_callTy call_list_of (by rfl) T.n_list (by decide +kernel) (pa_cons (pe_fld (pv 0) rfl) pa_nil))), ?_⟩
  exact ⟨_, rfl, x, _, dx, _, .ref g, rfl, hx, T.c_Board, T.a_Board_own_gains, rfl, g, _, rfl, .inl (SqL.of hg), k⟩
theorem sc_blog : FnScope ["self", "entry"] ["self"] (defScope s_Board_log) := ⟨rfl, rfl, rfl, by decide +kernel, rfl, by decide +kernel, by decide +kernel⟩
def spBlog (K : PySem.W.Frag) : Sp := fun vs H Q _ => vs.length = 1 ∧ ∃ (x dx wa g f lg pst : Addr) (logs : List V), vs = [.ref x] ∧ H x = some (.ins (ga K "Board") dx (bdF wa g f lg pst)) ∧ H lg = some (.lst logs) ∧ LogOk H logs ∧ logs.length ≤ 1000 ∧
  ∀ r H' logs', Same H H' → H r = none → H' r = some (.lst logs') → logs'.length = logs.length → Q (.ref r) H'
theorem ok_blog (T : Tx K mg) : Gd P w K mg base 2 (ma K (ga K "Board") "log") ["self"] (spBlog K) := by
  have G1 : Gd P w K mg base 1 (ga K "copied") ["entry"] spCop := ok_cop T
  refine gd_of T.f_Board_log sc_blog (fun _ _ _ _ _ _ us hl => match us, hl with | [_], _ => rfl) (fun _ _ _ _ h => h.1) (fun cdv A outer s H vs Q E hr h => ?_)
  obtain ⟨_, x, dx, wa, g, f, lg, pst, logs, rfl, hx, hl, lo, ll, k⟩ := h
  have nd := sc_blog.nd
  refine ⟨_, pss_one (ps_ret (pe_lc (own := [("entry", 1)]) (g := gName 1) (tt := tYes) rfl nd (pi_list (pe_fld (pv 0) rfl)) (blkOk_by (N := ["self", "entry"]) (sc := defScope s_Board_log) (by decide +kernel))
    (fun _ _ _ _ _ => pg_name (i := 1) nd rfl (Or.inl rfl)) (fun _ _ _ _ _ => pts_nil) (fun _ _ _ _ _ => pe_callG G1 hr rfl T.g_copied (pa_cons (pv 1) pa_nil)))), ?_⟩
  refine ⟨_, rfl, x, _, dx, _, .ref lg, rfl, hx, T.c_Board, T.a_Board_own_log, rfl, lg, rfl, ⟨_, SqL.of hl⟩, fun D hD => lc_it (walk_list (xs := logs)) (fun i H' => Same H H' ∧ ∃ acc, H' D = some (.lst acc) ∧ acc.length = i) ⟨Same.new hD, [], upd_same, rfl⟩ (fun i H' _ h => SqL.of (h.1 _ _ hl)) ?_ ?_⟩
  · rintro i z H2 H3 hi ⟨s2, acc, h2, al⟩ ⟨rfl, hz⟩
    obtain ⟨t, d, rfl, ht⟩ := lo z (List.mem_of_getElem? hz)
    refine ⟨rfl, _, rfl, rfl, t, d, rfl, s2 _ _ ht, fun r H4 s4 _ _ => ?_⟩
    exact ⟨acc, s4 _ _ h2, by show _ < 16777216; omega, Same.mut (Same.trans' s2 s4) hD, _, upd_same, by simp [al]⟩
  · rintro H2 ⟨s2, acc, h2, al⟩
    exact k D H2 acc s2 hD h2 al
theorem sc_bcs : FnScope ["self"] ["self"] (defScope s_Board_cycle_sums) := ⟨rfl, rfl, rfl, by decide +kernel, rfl, by decide +kernel, by decide +kernel⟩
def spBcs (K : PySem.W.Frag) : Sp := fun vs H Q _ => vs.length = 1 ∧ ∃ (x dx wa g f lg pst : Addr) (n : Nat) (es : List Edge) (m : Int) (dw : Addr) (ve vf vl : V) (gs : List Int), vs = [.ref x] ∧ H x = some (.ins (ga K "Board") dx (bdF wa g f lg pst)) ∧ WebAt K no H wa n es m dw ve vf vl ∧ WebOk n es m ∧
  H g = some (.lst (gs.map V.int)) ∧ ResAll m gs ∧ gs.length = es.length ∧ ∀ r H', Same H H' → H r = none → H' r = some (.lst ((csums n es m gs).map V.int)) → Q (.ref r) H'
theorem ok_bcs (T : Tx K mg) : Gd P w K mg base 9 (ma K (ga K "Board") "cycle_sums") ["self"] (spBcs K) := by
  have G1 : Gd P w K mg base 8 (ga K "cycle_sums_equivalence") ["web", "gains"] (spCsum K) := ok_csum T
  refine gd_of T.f_Board_cycle_sums sc_bcs (fun _ _ _ _ _ _ us hl => match us, hl with | [_], _ => rfl) (fun _ _ _ _ h => h.1) (fun cdv A outer s H vs Q E hr h => ?_)
  obtain ⟨_, x, dx, wa, g, f, lg, pst, n, es, m, dw, ve, vf, vl, gs, rfl, hx, S, O, hg, ra, ge, k⟩ := h
  refine ⟨_, pss_one (ps_ret (pe_callG G1 hr rfl T.g_cycle_sums_equivalence (pa_cons (pe_fld (pv 0) rfl) (pa_cons (pe_fld (pv 0) rfl) pa_nil)))), ?_⟩
  exact ⟨_, rfl, x, _, dx, _, .ref wa, rfl, hx, T.c_Board, T.a_Board_own_web, rfl, _, rfl, x, _, dx, _, .ref g, rfl, hx, T.c_Board, T.a_Board_own_gains, rfl, rfl, no, wa, n, es, m, dw, ve, vf, vl, g, gs, rfl, mok_no, S, O, hg, ra, ge, k⟩
theorem sc_btr : FnScope ["self", "after"] ["self", "after"] (defScope s_Board_transform) := ⟨rfl, rfl, rfl, by decide +kernel, rfl, by decide +kernel, by decide +kernel⟩
def spBtr (K : PySem.W.Frag) : Sp := fun vs H Q _ => vs.length = 2 ∧ ∃ (x dx wa g f lg pst c : Addr) (n : Nat) (es : List Edge) (m : Int) (dw : Addr) (ve vf vl : V) (bs as : List Int), vs = [.ref x, .ref c] ∧ H x = some (.ins (ga K "Board") dx (bdF wa g f lg pst)) ∧ WebAt K no H wa n es m dw ve vf vl ∧ WebOk n es m ∧
  H g = some (.lst (bs.map V.int)) ∧ bs.length = es.length ∧ ResAll m bs ∧ H c = some (.lst (as.map V.int)) ∧ as.length = es.length ∧ ResAll m as ∧ H f = some (.lst []) ∧ NoCyc n es m bs as ∧
  ∀ t y H', Same H H' → H' t = some (.tup [.str "potential", y]) → Q (.ref t) H'
theorem ok_btr (T : Tx K mg) : Gd P w K mg base 8 (ma K (ga K "Board") "transform") ["self", "after"] (spBtr K) := by
  have G1 : GdK P w K mg base 7 (ga K "transform_equivalence") ["web", "before", "after", "fixed"] (spTrans K) 3 ["fixed"] (fun vs zs => vs ++ zs) := ok_trans T
  refine gd_of T.f_Board_transform sc_btr (fun _ _ _ _ _ _ us hl => match us, hl with | [_, _], _ => rfl) (fun _ _ _ _ h => h.1) (fun cdv A outer s H vs Q E hr h => ?_)
  obtain ⟨_, x, dx, wa, g, f, lg, pst, c, n, es, m, dw, ve, vf, vl, bs, as, rfl, hx, S, O, hb, be, rb, hc, ce, rc, hf, nc, k⟩ := h
  refine ⟨_, pss_one (ps_ret (pe_callKG G1 hr rfl T.g_transform_equivalence (pa_cons (pe_fld (pv 0) rfl) (pa_cons (pe_fld (pv 0) rfl) (pa_cons (pv 1) pa_nil))) (pk_cons (pe_fld (pv 0) rfl) pk_nil))), ?_⟩
  exact ⟨_, rfl, x, _, dx, _, .ref wa, rfl, hx, T.c_Board, T.a_Board_own_web, rfl, _, rfl, x, _, dx, _, .ref g, rfl, hx, T.c_Board, T.a_Board_own_gains, rfl, _, rfl, _, rfl, x, _, dx, _, .ref f, rfl, hx, T.c_Board, T.a_Board_own_fixed, rfl, rfl, rfl,
    rfl, wa, n, es, m, dw, ve, vf, vl, g, c, f, bs, as, rfl, S, O, hb, be, rb, hc, ce, rc, hf, nc, k⟩
theorem sc_twin : FnScope ["self", "other"] ["self"] (defScope s_Board_twin) := ⟨rfl, rfl, rfl, by decide +kernel, rfl, by decide +kernel, by decide +kernel⟩
def spTwin (K : PySem.W.Frag) : Sp := fun vs H Q _ => vs.length = 1 ∧ ∃ (x dx wa g f lg pst : Addr) (n : Nat) (es : List Edge) (m : Int) (dw : Addr) (ve vf vl : V) (gs : List Int) (logs pasts : List V), vs = [.ref x] ∧ H x = some (.ins (ga K "Board") dx (bdF wa g f lg pst)) ∧ WebAt K no H wa n es m dw ve vf vl ∧ WebOk n es m ∧
  H g = some (.lst (gs.map V.int)) ∧ ResAll m gs ∧ gs.length = es.length ∧ H f = some (.lst []) ∧ H lg = some (.lst logs) ∧ LogOk H logs ∧ logs.length ≤ 1000 ∧ H pst = some (.lst pasts) ∧
  ∀ y dy g' f' lg' pst' logs' H', Same H H' → H' y = some (.ins (ga K "Board") dy (bdF wa g' f' lg' pst')) → H' lg' = some (.lst logs') → logs'.length = logs.length → H' pst' = some (.lst pasts) → H y = none → H lg' = none → H pst' = none → lg' ≠ pst' → Q (.ref y) H'
theorem ok_twin (T : Tx K mg) : Gd P w K mg base 9 (ma K (ga K "Board") "twin") ["self"] (spTwin K) := by
  have G1 : GdK P w K mg base 7 (ma K (ga K "Board") "__init__") n_binit (spBinit K) 3 ["fixed"] (fun vs zs => vs ++ zs) := ok_binitK T
  have G2 : Gd P w K mg base 8 (ma K (ga K "Board") "log") ["self"] (spBlog K) := (ok_blog T).mono (by decide)
  refine gd_of T.f_Board_twin sc_twin (fun _ _ _ _ _ _ us hl => match us, hl with | [_], _ => rfl) (fun _ _ _ _ h => h.1) (fun cdv A outer s H vs Q E hr h => ?_)
  obtain ⟨_, x, dx, wa, g, f, lg, pst, n, es, m, dw, ve, vf, vl, gs, logs, pasts, rfl, hx, S, O, hg, ra, ge, hf, hl, lo, ll, hp, k⟩ := h
  have nd := sc_twin.nd
  refine ⟨_, pss_cons (ps_set (i := 1) nd rfl (Or.inl rfl) (pe_makeKG T.k_Board G1 hr rfl T.g_Board (pa_cons (pe_fld (pv 0) rfl) (pa_cons (pe_fld (pv 0) rfl) pa_nil)) (pk_cons (pe_fld (pv 0) rfl) pk_nil)))
    (pss_cons (ps_fld (pv 1) (pe_methG0 (pv 0) T.c_Board T.m_Board_log G2 hr) rfl)
    (pss_cons (ps_fld (pv 1) (pe_callTy call_list_of (by rfl) T.n_list (by decide +kernel) (pa_cons (pe_fld (pv 0) rfl) pa_nil)) rfl)
    (pss_one (ps_ret (pv 1))))), ?_⟩
  refine ⟨_, rfl, x, _, dx, _, .ref wa, rfl, hx, T.c_Board, T.a_Board_own_web, rfl, _, rfl, x, _, dx, _, .ref g, rfl, hx, T.c_Board, T.a_Board_own_gains, rfl, _, rfl, x, _, dx, _, .ref f, rfl, hx, T.c_Board, T.a_Board_own_fixed, rfl, rfl, rfl, fun y dy hy hdy ne => ?_⟩
  have s1 : Same H (upd (upd H dy (.own y)) y (.ins (ga K "Board") dy [])) := Same.new' (Same.new hdy) (by rw [upd_ne ne.symm]; exact hy)
  refine ⟨rfl, y, dy, wa, n, es, m, dw, ve, vf, vl, g, f, gs, rfl, upd_same, (S.also hy).same s1, O, s1 _ _ hg, ra, ge, .inl (s1 _ _ hf), fun H2 g' f' lg0 pst0 sy hy2 hg2 hf2 hl2 hp2 ng nf nl np n1 n2 n3 n4 n5 => ⟨rfl, ?_⟩⟩
  have s2 : Same H H2 := fun b o e => sy.1 b o (fun z => by rw [z, hy] at e; cases e) (s1 _ _ e)
  refine ⟨_, rfl, x, dx, _, rfl, s2 _ _ hx, rfl, rfl, x, dx, wa, g, f, lg, pst, logs, rfl, s2 _ _ hx, s2 _ _ hl, (fun v hv => let ⟨t, d, a, b⟩ := lo v hv; ⟨t, d, a, s2 _ _ b⟩), ll, fun r H3 logs' s3 nr hr3 len3 => ?_⟩
  have hy3 := s3 _ _ hy2
  have s13 := Same.trans' s2 s3
  refine ⟨_, rfl, y, _, dy, _, rfl, hy3, T.c_Board, T.a_Board_own_log, by show 5 < 1000; decide, ?_⟩
  have nry : r ≠ y := fun z => by rw [z, hy2] at nr; cases nr
  have s4 : Same H (upd H3 y (.ins (ga K "Board") dy (putF "own_log" (.ref r) (bdF wa g' f' lg0 pst0)))) := Same.mut s13 hy
  have hy4 : upd H3 y (.ins (ga K "Board") dy (putF "own_log" (.ref r) (bdF wa g' f' lg0 pst0))) y = some (.ins (ga K "Board") dy (bdF wa g' f' r pst0)) := upd_same
  have hr4 : upd H3 y (.ins (ga K "Board") dy (putF "own_log" (.ref r) (bdF wa g' f' lg0 pst0))) r = _ := (upd_ne nry).trans hr3
  generalize upd H3 y (.ins (ga K "Board") dy (putF "own_log" (.ref r) (bdF wa g' f' lg0 pst0))) = H4 at s4 hy4 hr4 ⊢
  refine ⟨_, rfl, x, _, dx, _, .ref pst, rfl, s4 _ _ hx, T.c_Board, T.a_Board_past, rfl, pst, _, rfl, .inl (SqL.of (s4 _ _ hp)), fun q hq => ?_⟩
  have s5 := Same.new (o := .lst pasts) hq
  have hq5 : upd H4 q (.lst pasts) q = some (.lst pasts) := upd_same
  have nqy : q ≠ y := (ne_of_none hy4 hq).symm
  have nrq : r ≠ q := ne_of_none hr4 hq
  generalize upd H4 q (.lst pasts) = H5 at s5 hq5 ⊢
  refine ⟨_, rfl, y, _, dy, _, rfl, s5 _ _ hy4, T.c_Board, T.a_Board_past, by show 5 < 1000; decide, ?_⟩
  refine ⟨_, rfl, k y dy g' f' r q logs' _ (Same.mut (Same.trans' s4 s5) hy) upd_same ((upd_ne nry).trans (s5 _ _ hr4)) len3 ((upd_ne nqy).trans hq5) hy (Same.back s2 nr) (Same.back s4 hq) nrq⟩
end
end Tt
set_option Elab.async false
set_option linter.all false
set_option maxRecDepth 100000
set_option maxHeartbeats 4000000
/-! the law's helpers -/
namespace Tt
open PySem PySem.Spec PyProof.Rows L2 He
def PoolAt (H : Hp) (pl : Addr) : Prop := ∃ a b : Int, H pl = some (.lst [.int a, .int b]) ∧ 0 ≤ a ∧ 0 ≤ b ∧ b < 2 ^ 32
theorem PoolAt.same {H H' : Hp} {pl : Addr} (h : PoolAt H pl) (s : Same H H') : PoolAt H' pl := let ⟨a, b, e, r⟩ := h; ⟨a, b, s _ _ e, r⟩
theorem PoolAt.sx {H : Hp} {pl : Addr} (h : PoolAt H pl) : Sx pl H H := let ⟨a, b, e, r⟩ := h; Sx.refl ⟨_, e⟩
section
variable {P : Program} {w : World} {K : PySem.W.Frag} {mg : Str → Option Value} {base : Heap}
abbrev n_pool : List Str := ["_law_script", "_law_k", "_law_cell", "_law_seed"]
theorem sc_pool : FnScope n_pool ["_law_script", "_law_k"] (defScope s_law_pool) := ⟨rfl, rfl, rfl, by decide +kernel, rfl, by decide +kernel, by decide +kernel⟩
def spPool (K : PySem.W.Frag) : Sp := fun vs H Q _ => vs.length = 2 ∧ ∃ (a : Addr) (ns : List Int) (k : Nat), vs = [.ref a, .int (k : Int)] ∧ SqL K H a (ns.map V.int) ∧ k < 4 ∧ ∀ r H', Same H H' → H r = none → PoolAt H' r → Q (.ref r) H'
theorem ok_pool (T : Tx K mg) : Gd P w K mg base 1 (ga K "_law_pool") ["_law_script", "_law_k"] (spPool K) := by
  refine gd_of T.f_law_pool sc_pool (fun _ _ _ _ _ _ us hl => match us, hl with | [_, _], _ => rfl) (fun _ _ _ _ h => h.1) (fun cdv A outer s H vs Q E hr h => ?_)
  obtain ⟨_, a, ns, k, rfl, ha, hk, q⟩ := h
  have nd := sc_pool.nd
  refine ⟨_, pss_cons (ps_set (i := 2) nd rfl (Or.inl rfl) pe_int)
    (pss_cons (ps_if (pt_cmpR op_lt (pv 1) (pe_len (pv 0) rfl T.n_len) (nomark _)) (pss_one (ps_set (i := 2) nd rfl (Or.inl rfl) (pe_ix ix_list (pv 0) (pv 1) (fun _ _ => rfl)))) pss_nil)
    (pss_cons (ps_set (i := 3) nd rfl (Or.inl rfl) (pe_op op_mod (pe_op op_mul (pe_op op_add (pe_op op_add (pe_op op_mod (pv 2) pe_int) (pe_op op_mul (pe_op op_mul pe_int (pv 1)) (pv 1))) pe_int) pe_int) pe_int))
    (pss_cons (ps_if (pt_cmpR op_lt (pv 2) (pe_op op_pow pe_int pe_int) (nomark _)) (pss_one (ps_set (i := 2) nd rfl (Or.inl rfl) pe_int)) pss_nil)
    (pss_one (ps_ret (pe_lst (pa_cons (pv 2) (pa_cons (pe_op op_add (pe_op op_mod (pe_op op_mul (pv 3) (pv 3)) pe_int) pe_int) pa_nil)))))))), ?_⟩
  have hk3 : (k : Int) ≤ 3 := by omega
  have hk2 : (7919 * (k : Int)) * (k : Int) ≤ 100000 ∧ 0 ≤ (7919 * (k : Int)) * (k : Int) := by
    have h4 : k = 0 ∨ k = 1 ∨ k = 2 ∨ k = 3 := by omega
    rcases h4 with rfl | rfl | rfl | rfl <;> decide
  have fin : ∀ (c0 se : Int), 0 ≤ c0 → 0 ≤ se → se < 2147483647 → ∀ σ : L2.St, σ[2]? = some (some (.int c0)) → σ[3]? = some (some (.int se)) →
      tRet (tLst (tCons (tVar 2) (tCons (tOp (rI0 fun i j => V.int (i + j)) (tOp (rI (fun _ j => 0 < j) fun i j => V.int (i % j)) (tOp (rI CMul fun i j => V.int (i * j)) (tVar 3) (tVar 3)) (tC (.int 2147483587))) (tC (.int 1))) tNil))) ({ nx := fun _ H' => Q .non H', rt := Q } : Ends) σ H := by
    intro c0 se h0 h1 h2 σ e2 e3
    have hm := Int.emod_nonneg (se * se) (show (2147483587 : Int) ≠ 0 by decide)
    have hm2 := Int.emod_lt_of_pos (se * se) (show (0 : Int) < 2147483587 by decide)
    refine ⟨_, e2, _, e3, _, e3, _, _, rfl, rfl, .inl ⟨by omega, by omega⟩, _, _, rfl, rfl, by show (0 : Int) < 2147483587; decide, _, _, rfl, rfl, by show 2 ≤ sizeLine; decide, fun p hp => ?_⟩
    exact q p _ (Same.new hp) hp ⟨c0, _, upd_same, h0, by omega, by omega⟩
  have mid : ∀ (c : Int) (x3 : Option V) (σ : L2.St), σ = [some (.ref a), some (.int (k : Int)), some (.int c), x3] → ∃ se : Int, 0 ≤ se ∧ se < 2147483647 ∧ se = ((c % 2147483629 + 7919 * (k : Int) * (k : Int) + 13) * 48271) % 2147483647 := by
    intro c x3 σ _
    exact ⟨_, Int.emod_nonneg _ (by decide), Int.emod_lt_of_pos _ (by decide), rfl⟩
  have hc : ∀ c : Int, 0 ≤ c % 2147483629 ∧ c % 2147483629 < 2147483629 := fun c => ⟨Int.emod_nonneg _ (by decide), Int.emod_lt_of_pos _ (by decide)⟩
  have go : ∀ c : Int, tSeq (tAsg (tOp (rI (fun _ j => 0 < j) fun i j => V.int (i % j)) (tOp (rI CMul fun i j => V.int (i * j)) (tOp (rI0 fun i j => V.int (i + j)) (tOp (rI0 fun i j => V.int (i + j)) (tOp (rI (fun _ j => 0 < j) fun i j => V.int (i % j)) (tVar 2) (tC (.int 2147483629))) (tOp (rI CMul fun i j => V.int (i * j)) (tOp (rI CMul fun i j => V.int (i * j)) (tC (.int 7919)) (tVar 1)) (tVar 1))) (tC (.int 13))) (tC (.int 48271))) (tC (.int 2147483647))) (gName 3))
      (tSeq (tIfS (tTest (tOp (rI0 fun i j => V.bl (decide (i < j))) (tVar 2) (tOp (rI CPow fun i j => V.int (i ^ j.toNat)) (tC (.int 10)) (tC (.int 18))))) (tAsg (tC (.int 0)) (gName 2)) tNext)
        (tRet (tLst (tCons (tVar 2) (tCons (tOp (rI0 fun i j => V.int (i + j)) (tOp (rI (fun _ j => 0 < j) fun i j => V.int (i % j)) (tOp (rI CMul fun i j => V.int (i * j)) (tVar 3) (tVar 3)) (tC (.int 2147483587))) (tC (.int 1))) tNil)))))
      ({ nx := fun _ H' => Q .non H', rt := Q } : Ends) [some (.ref a), some (.int (k : Int)), some (.int c), none] H := by
    intro c
    obtain ⟨c1, c2⟩ := hc c
    refine ⟨_, rfl, _, _, rfl, rfl, by show (0 : Int) < 2147483629; decide, _, rfl, _, _, rfl, rfl, .inl ⟨by decide, by decide⟩, _, rfl, _, _, rfl, rfl, .inr ⟨by omega, by omega⟩, _, _, rfl, rfl, _, _, rfl, rfl, _, _, rfl, rfl, .inr ⟨by decide, by decide⟩, _, _, rfl, rfl, by show (0 : Int) < 2147483647; decide, ?_⟩
    obtain ⟨se, h1, h2, h3⟩ := mid c none _ rfl
    refine ⟨_, rfl, _, _, rfl, rfl, ⟨by decide, by decide, by decide⟩, _, _, rfl, rfl, _, rfl, ite2 (fun e => ?_) (fun e => ?_)⟩
    · exact fin 0 se (Int.le_refl _) h1 h2 _ rfl (by rw [h3]; rfl)
    · have e' : ¬ c < (10 : Int) ^ (18 : Int).toNat := fun z => e (decide_eq_true z)
      have e10 : (10 : Int) ^ (18 : Int).toNat = 1000000000000000000 := by decide
      rw [e10] at e'
      exact fin c se (by omega) h1 h2 _ rfl (by rw [h3]; rfl)
  refine ⟨_, rfl, _, rfl, a, _, rfl, .inl ha, _, _, rfl, rfl, _, rfl, ite2 (fun e => ?_) (fun e => ?_)⟩
  · have e' : (k : Int) < ((ns.map V.int).length : Int) := of_decide_eq_true e
    rw [List.length_map] at e'
    exact ⟨_, rfl, _, rfl, a, _, _, _, rfl, rfl, ha, ints_at (by omega), go _⟩
  · exact go 0
end
end Tt
set_option Elab.async false
set_option linter.all false
set_option maxRecDepth 100000
set_option maxHeartbeats 4000000
/-! the law's helpers: take, links, low, number, numbers, put -/
namespace Tt
open PySem PySem.Spec PyProof.Rows L2 He
section
variable {P : Program} {w : World} {K : PySem.W.Frag} {mg : Str → Option Value} {base : Heap}
abbrev n_take : List Str := ["_law_pool_here", "_law_sides", "_law_found"]
theorem sc_take : FnScope n_take ["_law_pool_here", "_law_sides"] (defScope s_law_take) := ⟨rfl, rfl, rfl, by decide +kernel, rfl, by decide +kernel, by decide +kernel⟩
def spTake : Sp := fun vs H Q _ => vs.length = 2 ∧ ∃ (pl : Addr) (s : Int), vs = [.ref pl, .int s] ∧ 1 ≤ s ∧ s ≤ 1000000000000000000 ∧ PoolAt H pl ∧ ∀ r H', 0 ≤ r → r < s → Sx pl H H' → PoolAt H' pl → Q (.int r) H'
theorem ok_take (T : Tx K mg) : Gd P w K mg base 1 (ga K "_law_take") ["_law_pool_here", "_law_sides"] spTake := by
  refine gd_of T.f_law_take sc_take (fun _ _ _ _ _ _ us hl => match us, hl with | [_, _], _ => rfl) (fun _ _ _ _ h => h.1) (fun cdv A outer s0 H vs Q E hr h => ?_)
  obtain ⟨_, pl, s, rfl, s1, s2, ⟨a, b, hp, a0, b0, b1⟩, k⟩ := h
  have nd := sc_take.nd
  refine ⟨_, pss_cons (ps_if (pt_cmpR op_gt (pe_ix ix_list (pv 0) pe_int (fun _ _ => rfl)) pe_int (nomark _))
      (pss_cons (ps_set (i := 2) nd rfl (Or.inl rfl) (pe_op op_mod (pe_ix ix_list (pv 0) pe_int (fun _ _ => rfl)) (pv 1)))
      (pss_cons (ps_asg (pe_op op_fdivW (pe_ix ix_list (pv 0) pe_int (fun _ _ => rfl)) (pv 1)) (pg_sub (pv 0) pe_int set_list))
      (pss_one (ps_ret (pv 2))))) pss_nil)
    (pss_cons (ps_asg (pe_op op_mod (pe_op op_add (pe_op op_mul (pe_ix ix_list (pv 0) pe_int (fun _ _ => rfl)) pe_int) pe_int) pe_int) (pg_sub (pv 0) pe_int set_list))
    (pss_one (ps_ret (pe_op op_mod (pe_op op_fdiv (pe_op op_mod (pe_op op_mul (pe_ix ix_list (pv 0) pe_int (fun _ _ => rfl)) (pe_ix ix_list (pv 0) pe_int (fun _ _ => rfl))) pe_int) pe_int) (pv 1))))), ?_⟩
  have hs : 0 < s := by omega
  have hw : CDivW a s := wide_div hs (b := 64) (by
    have e : (2 : Nat) ^ 64 = 18446744073709551616 := by decide
    rw [e]
    omega) (by decide) (by decide)
  refine ⟨_, rfl, pl, _, _, .int a, rfl, rfl, SqL.of hp, rfl, _, _, rfl, rfl, _, rfl, ite2 (fun e => ?_) (fun e => ?_)⟩
  · refine ⟨_, rfl, pl, _, _, .int a, rfl, rfl, SqL.of hp, rfl, _, rfl, _, _, rfl, rfl, hs, ?_⟩
    refine ⟨_, rfl, pl, _, _, .int a, rfl, rfl, SqL.of hp, rfl, _, rfl, _, _, rfl, rfl, hw, ?_⟩
    refine ⟨_, rfl, pl, _, _, 0, rfl, rfl, hp, rfl, ?_⟩
    refine ⟨_, rfl, k _ _ (Int.emod_nonneg _ (by omega)) (Int.emod_lt_of_pos _ hs) (Sx.upd (Sx.refl ⟨_, hp⟩)) ⟨a / s, b, upd_same, Int.ediv_nonneg a0 (by omega), b0, b1⟩⟩
  · have q0 := Int.emod_nonneg (b * 48271 + 11) (show (2147483647 : Int) ≠ 0 by decide)
    have q1 := Int.emod_lt_of_pos (b * 48271 + 11) (show (0 : Int) < 2147483647 by decide)
    refine ⟨_, rfl, pl, _, _, .int b, rfl, rfl, SqL.of hp, rfl, _, _, rfl, rfl, .inr ⟨by decide, by decide⟩, _, _, rfl, rfl, _, _, rfl, rfl, by show (0 : Int) < 2147483647; decide, ?_⟩
    refine ⟨_, rfl, pl, _, _, 1, rfl, rfl, hp, rfl, ?_⟩
    have hp2 : upd H pl (.lst ([V.int a, V.int b].set 1 (.int ((b * 48271 + 11) % 2147483647)))) pl = some (.lst [.int a, .int ((b * 48271 + 11) % 2147483647)]) := upd_same
    have sx : Sx pl H (upd H pl (.lst ([V.int a, V.int b].set 1 (.int ((b * 48271 + 11) % 2147483647))))) := Sx.upd (Sx.refl ⟨_, hp⟩)
    refine ⟨_, rfl, pl, _, _, .int ((b * 48271 + 11) % 2147483647), rfl, rfl, SqL.of hp2, rfl, _, rfl, pl, _, _, .int ((b * 48271 + 11) % 2147483647), rfl, rfl, SqL.of hp2, rfl, _, _, rfl, rfl, .inl ⟨by omega, by omega⟩, _, _, rfl, rfl, by show (0 : Int) < 2147483629; decide, _, _, rfl, rfl, ⟨by decide, by decide⟩, _, rfl, _, _, rfl, rfl, hs, ?_⟩
    exact k _ _ (Int.emod_nonneg _ (by omega)) (Int.emod_lt_of_pos _ hs) sx ⟨a, _, hp2, a0, q0, by omega⟩
theorem sc_low : FnScope ["_law_number_here", "_law_dial"] ["_law_number_here", "_law_dial"] (defScope s_law_low) := ⟨rfl, rfl, rfl, by decide +kernel, rfl, by decide +kernel, by decide +kernel⟩
theorem ok_low (T : Tx K mg) : Gd P w K mg base 1 (ga K "_law_low") ["_law_number_here", "_law_dial"] spReduced := by
  refine gd_of T.f_law_low sc_low (fun _ _ _ _ _ _ us hl => match us, hl with | [_, _], _ => rfl) (fun _ _ _ _ h => h.1) (fun cdv A outer s H vs Q E hr h => ?_)
  obtain ⟨_, i, m, rfl, k⟩ := h
  refine ⟨_, pss_one (ps_ret (pe_ifExp (pt_cmpR op_gt (pv 1) pe_int (nomark _)) (pe_op op_mod (pv 0) (pv 1)) (pv 0))), ?_⟩
  refine ⟨_, rfl, _, _, rfl, rfl, _, rfl, ite2 (fun e => ?_) (fun e => ?_)⟩
  · have e' : 0 < m := of_decide_eq_true e
    refine ⟨_, rfl, _, rfl, _, _, rfl, rfl, e', ?_⟩
    have : red i m = i % m := if_pos e'
    rw [this] at k
    exact k
  · have e' : ¬ 0 < m := fun z => e (decide_eq_true z)
    refine ⟨_, rfl, ?_⟩
    have : red i m = i := if_neg e'
    rw [this] at k
    exact k
abbrev n_lnks : List Str := ["_law_pool_here", "_law_nodes", "_law_most", "_law_found", "_law_turn"]
theorem sc_lnks : FnScope n_lnks ["_law_pool_here", "_law_nodes", "_law_most"] (defScope s_law_links) := ⟨rfl, rfl, rfl, by decide +kernel, rfl, by decide +kernel, by decide +kernel⟩
def spLnks : Sp := fun vs H Q _ => vs.length = 3 ∧ ∃ (M : Ms) (pl : Addr) (n : Nat), vs = [.ref pl, .int (n : Int), .int 16] ∧ 1 ≤ n ∧ n ≤ 10 ∧ PoolAt H pl ∧ M pl ∧ MOk M H ∧
  ∀ r H' es, Sx pl H H' → PoolAt H' pl → EdgesIn n es → es.length ≤ 16 → Dd M H' r (edgesD es) → Q r H'
theorem ok_lnks (T : Tx K mg) : Gd P w K mg base 2 (ga K "_law_links") ["_law_pool_here", "_law_nodes", "_law_most"] spLnks := by
  have G1 : Gd P w K mg base 1 (ga K "_law_take") ["_law_pool_here", "_law_sides"] spTake := ok_take T
  refine gd_of T.f_law_links sc_lnks (fun _ _ _ _ _ _ us hl => match us, hl with | [_, _, _], _ => rfl) (fun _ _ _ _ h => h.1) (fun cdv A outer s H vs Q E hr h => ?_)
  obtain ⟨_, M, pl, n, rfl, n1, n10, hp, mp, mok, k⟩ := h
  have nd := sc_lnks.nd
  refine ⟨_, pss_cons (ps_set (i := 3) nd rfl (Or.inl rfl) (pe_lst pa_nil))
    (pss_cons (ps_for PassesOwn.never rfl (pi_range1 (by rfl) T.n_range (pa_cons (pe_callG G1 hr rfl T.g_law_take (pa_cons (pv 0) (pa_cons (pe_op op_add (pv 2) pe_int) pa_nil))) pa_nil)) (pg_name (i := 4) nd rfl (Or.inl rfl))
      (pss_one (ps_expr (pe_bm PySem.F.plainAttrs_list PySem.F.slot_list_append PySem.F.type_list_append mt_append (pv 3) (pa_cons (pe_tup (pa_cons (pe_callG G1 hr rfl T.g_law_take (pa_cons (pv 0) (pa_cons (pv 1) pa_nil))) (pa_cons (pe_callG G1 hr rfl T.g_law_take (pa_cons (pv 0) (pa_cons (pv 1) pa_nil))) pa_nil))) pa_nil)))))
    (pss_one (ps_ret (pv 3)))), ?_⟩
  refine ⟨by decide, fun F hF => ?_⟩
  have nFp : F ≠ pl := fun z => by obtain ⟨a, b, e, _⟩ := hp; rw [z, e] at hF; cases hF
  have s0 := Same.new (o := .lst []) hF
  have hF0 : upd H F (.lst []) F = some (.lst []) := upd_same
  refine ⟨_, rfl, _, rfl, _, _, rfl, rfl, rfl, pl, _, rfl, by omega, by omega, hp.same s0, fun r H1 r0 r1 sx1 hp1 => ?_⟩
  obtain ⟨c, rfl⟩ : ∃ c : Nat, r = (c : Int) := ⟨r.toNat, by omega⟩
  have hF1 := sx1.1 _ _ nFp hF0
  have sxH : Sx pl H H1 := (hp.sx.same s0).trans sx1
  have r1' : (c : Int) < 16 + 1 := r1
  refine ⟨(c : Int), rfl, by omega, by omega, for_it (walk_rangeN (n := (c : Int).toNat)) (fun i σ H' => ∃ (x4 : Option V) (es : List Edge) (fs : List V), σ = [some (.ref pl), some (.int (n : Int)), some (.int 16), some (.ref F), x4] ∧ Sx pl H H' ∧ PoolAt H' pl ∧ EdgesIn n es ∧ es.length = i ∧
    H' F = some (.lst fs) ∧ DdAll (also M F) H' fs (es.map edgeD)) ⟨none, [], [], rfl, sxH, hp1, fun i hi => absurd hi (Nat.not_lt_zero _), rfl, hF1, .nil⟩ (fun _ _ _ _ _ => trivial) ?_ ?_⟩
  · rintro i x σ H2 H3 hi ⟨x4, es, fs, rfl, sx2, hp2, ei, el, hF2, dF⟩ ⟨rfl, rfl⟩
    refine ⟨_, rfl, .inl ⟨rfl, _, SqL.of hF2⟩, _, rfl, _, rfl, rfl, pl, _, rfl, by omega, by omega, hp2, fun t H4 t0 t1 sx4 hp4 => ?_⟩
    obtain ⟨tt, rfl⟩ : ∃ c : Nat, t = (c : Int) := ⟨t.toNat, by omega⟩
    refine ⟨_, rfl, _, rfl, rfl, pl, _, rfl, by omega, by omega, hp4, fun u H5 u0 u1 sx5 hp5 => ?_⟩
    obtain ⟨uu, rfl⟩ : ∃ c : Nat, u = (c : Int) := ⟨u.toNat, by omega⟩
    refine ⟨by show 2 ≤ sizeLine; decide, fun e he => ?_⟩
    have sx25 := (hp2.sx.trans sx4).trans sx5
    have hF5 := sx25.1 _ _ nFp hF2
    have s6 := Same.new (o := .tup [.int (tt : Int), .int (uu : Int)]) he
    have dF6 : DdAll (also M F) (upd H5 e (.tup [.int (tt : Int), .int (uu : Int)])) fs (es.map edgeD) := (DdAll.move (fun b o nb eb => ⟨nb, sx25.1 b o (fun z => nb (.inl (z ▸ mp))) eb⟩) _ _ dF).same s6
    have mo : MOk (also M F) H5 := (mok.sx (sx2.trans sx25)).also hF5
    refine ⟨F, fs, _, rfl, rfl, s6 _ _ hF5, ?_, ?_⟩
    · have := dF.length
      rw [List.length_map] at this
      show _ < 16777216; omega
    refine ⟨_, es ++ [(tt, uu)], _, rfl, ?_, ?_, ?_, by simp [el], upd_same, ?_⟩
    · have sA := (sx2.trans sx25).same s6
      refine ⟨fun b o nb eb => ?_, ?_⟩
      · rw [upd_ne (fun z => by rw [z, hF] at eb; cases eb)]; exact sA.1 b o nb eb
      · rw [upd_ne nFp.symm]; exact sA.2
    · obtain ⟨a', b', q1, q2⟩ := hp5
      exact ⟨a', b', by rw [upd_ne nFp.symm]; exact s6 _ _ q1, q2⟩
    · intro j hj
      rw [List.length_append, List.length_singleton] at hj
      by_cases q : j < es.length
      · rw [getD_append_left q]; exact ei j q
      · have : j = es.length := by omega
        rw [this, getD_append_last]
        exact ⟨by show tt < n; omega, by show uu < n; omega⟩
    · rw [List.map_append]
      exact (dF6.upd (.inr rfl)).append (.cons ((mk_edge (tt, uu) (mo.new he) upd_same).upd (.inr rfl)) .nil)
  · rintro σ H2 ⟨x4, es, fs, rfl, sx2, hp2, ei, el, hF2, dF⟩
    exact ⟨_, rfl, k _ _ es sx2 hp2 ei (by omega) (.lst (mok.new hF) hF2 (dF.less fun b h => .inl h))⟩
theorem sc_num : FnScope ["_law_pool_here", "_law_dial"] ["_law_pool_here", "_law_dial"] (defScope s_law_number) := ⟨rfl, rfl, rfl, by decide +kernel, rfl, by decide +kernel, by decide +kernel⟩
def spNum : Sp := fun vs H Q _ => vs.length = 2 ∧ ∃ (pl : Addr) (m : Int), vs = [.ref pl, .int m] ∧ 0 ≤ m ∧ m ≤ 60 ∧ PoolAt H pl ∧ ∀ r H', Res m r → Sx pl H H' → PoolAt H' pl → Q (.int r) H'
theorem ok_num (T : Tx K mg) : Gd P w K mg base 2 (ga K "_law_number") ["_law_pool_here", "_law_dial"] spNum := by
  have G1 : Gd P w K mg base 1 (ga K "_law_take") ["_law_pool_here", "_law_sides"] spTake := ok_take T
  refine gd_of T.f_law_number sc_num (fun _ _ _ _ _ _ us hl => match us, hl with | [_, _], _ => rfl) (fun _ _ _ _ h => h.1) (fun cdv A outer s H vs Q E hr h => ?_)
  obtain ⟨_, pl, m, rfl, m0, m60, hp, k⟩ := h
  refine ⟨_, pss_cons (ps_if (pt_cmpR op_gt (pv 1) pe_int (nomark _)) (pss_one (ps_ret (pe_callG G1 hr rfl T.g_law_take (pa_cons (pv 0) (pa_cons (pv 1) pa_nil))))) pss_nil)
    (pss_one (ps_ret (pe_ix ix_list (pe_lst (pa_cons (pe_op op_sub (pe_callG G1 hr rfl T.g_law_take (pa_cons (pv 0) (pa_cons pe_int pa_nil))) pe_int) (pa_cons pe_int (pa_cons (pe_op op_sub (pe_callG G1 hr rfl T.g_law_take (pa_cons (pv 0) (pa_cons (pe_op op_pow pe_int pe_int) pa_nil))) (pe_op op_mul pe_int (pe_op op_pow pe_int pe_int))) pa_nil))))
      (pe_callG G1 hr rfl T.g_law_take (pa_cons (pv 0) (pa_cons pe_int pa_nil))) (fun _ _ => rfl)))), ?_⟩
  refine ⟨_, rfl, _, _, rfl, rfl, _, rfl, ite2 (fun e => ?_) (fun e => ?_)⟩
  · have e' : 0 < m := of_decide_eq_true e
    exact ⟨_, rfl, _, rfl, rfl, pl, m, rfl, by omega, by omega, hp, fun r H1 r0 r1 sx1 hp1 => k r H1 (.inr ⟨r0, r1⟩) sx1 hp1⟩
  · have e' : m = 0 := by
      have : ¬ 0 < m := fun z => e (decide_eq_true z)
      omega
    have e10 : (10 : Int) ^ (18 : Int).toNat = 1000000000000000000 := by decide
    refine ⟨_, rfl, rfl, pl, 9, rfl, by decide, by decide, hp, fun r1 H1 _ _ sx1 hp1 => ⟨_, _, rfl, rfl, ?_⟩⟩
    refine ⟨_, rfl, _, _, rfl, rfl, ⟨by decide, by decide, by decide⟩, rfl, pl, _, rfl, by rw [e10]; decide, by rw [e10]; decide, hp1, fun r2 H2 _ _ sx2 hp2 => ?_⟩
    refine ⟨_, _, rfl, rfl, ⟨by decide, by decide, by decide⟩, _, _, rfl, rfl, .inl ⟨by decide, by decide⟩, _, _, rfl, rfl, by show 3 ≤ sizeLine; decide, fun l hl => ?_⟩
    have s3 := Same.new (o := .lst [.int (r1 - 4), .int 0, .int (r2 - 5 * 10 ^ (17 : Int).toNat)]) hl
    refine ⟨_, rfl, rfl, pl, 3, rfl, by decide, by decide, hp2.same s3, fun r3 H3 t0 t1 sx3 hp3 => ?_⟩
    have nl : l ≠ pl := fun z => by obtain ⟨a, b, e, _⟩ := hp2; rw [z, e] at hl; cases hl
    have hl3 := sx3.1 _ _ nl (show upd H2 l (.lst [.int (r1 - 4), .int 0, .int (r2 - 5 * 10 ^ (17 : Int).toNat)]) l = some _ from upd_same)
    have sA : Sx pl H H3 := ((sx1.trans sx2).same s3).trans sx3
    have h3 : r3 = 0 ∨ r3 = 1 ∨ r3 = 2 := by omega
    rcases h3 with rfl | rfl | rfl
    · exact ⟨l, _, _, .int (r1 - 4), rfl, rfl, SqL.of hl3, rfl, k _ _ (.inl e') sA hp3⟩
    · exact ⟨l, _, _, .int 0, rfl, rfl, SqL.of hl3, rfl, k _ _ (.inl e') sA hp3⟩
    · exact ⟨l, _, _, .int (r2 - 5 * 10 ^ (17 : Int).toNat), rfl, rfl, SqL.of hl3, rfl, k _ _ (.inl e') sA hp3⟩
abbrev n_nums : List Str := ["_law_pool_here", "_law_dial", "_law_count", "_law_turn"]
theorem sc_nums : FnScope n_nums ["_law_pool_here", "_law_dial", "_law_count"] (defScope s_law_numbers) := ⟨rfl, rfl, rfl, by decide +kernel, rfl, by decide +kernel, by decide +kernel⟩
def spNums : Sp := fun vs H Q _ => vs.length = 3 ∧ ∃ (pl : Addr) (m : Int) (c : Nat), vs = [.ref pl, .int m, .int (c : Int)] ∧ 0 ≤ m ∧ m ≤ 60 ∧ c ≤ 1000 ∧ PoolAt H pl ∧
  ∀ r H' gs, Sx pl H H' → PoolAt H' pl → H r = none → H' r = some (.lst (gs.map V.int)) → gs.length = c → ResAll m gs → Q (.ref r) H'
theorem ok_nums (T : Tx K mg) : Gd P w K mg base 3 (ga K "_law_numbers") ["_law_pool_here", "_law_dial", "_law_count"] spNums := by
  have G1 : Gd P w K mg base 2 (ga K "_law_number") ["_law_pool_here", "_law_dial"] spNum := ok_num T
  refine gd_of T.f_law_numbers sc_nums (fun _ _ _ _ _ _ us hl => match us, hl with | [_, _, _], _ => rfl) (fun _ _ _ _ h => h.1) (fun cdv A outer s H vs Q E hr h => ?_)
  obtain ⟨_, pl, m, c, rfl, m0, m60, cl, hp, k⟩ := h
  have nd := sc_nums.nd
  refine ⟨_, pss_one (ps_ret (pe_lc (own := [("_law_turn", 3)]) (g := gName 3) (tt := tYes) rfl nd (pi_range1 (by rfl) T.n_range (pa_cons (pv 2) pa_nil)) (blkOk_by (N := n_nums) (sc := defScope s_law_numbers) (by decide +kernel))
    (fun _ _ _ _ _ => pg_name (i := 3) nd rfl (Or.inl rfl)) (fun _ _ _ _ _ => pts_nil) (fun _ _ _ _ _ => pe_callG G1 hr rfl T.g_law_number (pa_cons (pv 0) (pa_cons (pv 1) pa_nil))))), ?_⟩
  refine ⟨_, rfl, (c : Int), rfl, by omega, by omega, fun D hD => lc_it (walk_rangeN (n := (c : Int).toNat)) (fun i H' => ∃ gs : List Int, Sx pl H H' ∧ PoolAt H' pl ∧ H' D = some (.lst (gs.map V.int)) ∧ gs.length = i ∧ ResAll m gs) ⟨[], hp.sx.same (Same.new hD), hp.same (Same.new hD), upd_same, rfl, fun i hi => absurd hi List.not_mem_nil⟩ (fun _ _ _ _ => trivial) ?_ ?_⟩
  · rintro i x H2 H3 hi ⟨gs, sx2, hp2, hD2, gl, rg⟩ ⟨rfl, rfl⟩
    have nDp : D ≠ pl := fun z => by obtain ⟨a, b, e, _⟩ := hp; rw [z, e] at hD; cases hD
    refine ⟨rfl, _, rfl, _, rfl, rfl, pl, m, rfl, m0, m60, hp2, fun r H4 rr sx4 hp4 => ?_⟩
    have hD4 := sx4.1 _ _ nDp hD2
    have sA := sx2.trans sx4
    refine ⟨_, hD4, by rw [List.length_map]; show _ < 16777216; omega, gs ++ [r], ?_, ?_, by rw [upd_same, ints_snoc], by simp [gl], ?_⟩
    · refine ⟨fun b o nb eb => ?_, ?_⟩
      · rw [upd_ne (fun z => by rw [z, hD] at eb; cases eb)]; exact sA.1 b o nb eb
      · rw [upd_ne nDp.symm]; exact sA.2
    · obtain ⟨a', b', q1, q2⟩ := hp4
      exact ⟨a', b', by rw [upd_ne nDp.symm]; exact q1, q2⟩
    · intro j hj
      rcases List.mem_append.mp hj with hj | hj
      · exact rg j hj
      · rw [List.mem_singleton.mp hj]; exact rr
  · rintro H2 ⟨gs, sx2, hp2, hD2, gl, rg⟩
    exact k D H2 gs sx2 hp2 hD hD2 (by omega) rg
abbrev n_put : List Str := ["_law_links_here", "_law_dial", "_law_gains_here", "_law_levels", "_law_found", "_law_gain", "_law_tail", "_law_head"]
theorem sc_put : FnScope n_put ["_law_links_here", "_law_dial", "_law_gains_here", "_law_levels"] (defScope s_law_put) := ⟨rfl, rfl, rfl, by decide +kernel, rfl, by decide +kernel, by decide +kernel⟩
def spPut : Sp := fun vs H Q _ => vs.length = 4 ∧ ∃ (M : Ms) (v : V) (n : Nat) (es : List Edge) (m : Int) (g p : Addr) (gs ps : List Int), vs = [v, .int m, .ref g, .ref p] ∧ Dd M H v (edgesD es) ∧ EdgesIn n es ∧ es.length ≤ 60 ∧
  H g = some (.lst (gs.map V.int)) ∧ gs.length = es.length ∧ H p = some (.lst (ps.map V.int)) ∧ ps.length = n ∧ ∀ r H', Same H H' → H r = none → H' r = some (.lst ((swl es m gs ps es.length).map V.int)) → Q (.ref r) H'
theorem ok_put (T : Tx K mg) : Gd P w K mg base 2 (ga K "_law_put") ["_law_links_here", "_law_dial", "_law_gains_here", "_law_levels"] spPut := by
  have G1 : Gd P w K mg base 1 (ga K "_law_low") ["_law_number_here", "_law_dial"] spReduced := ok_low T
  refine gd_of T.f_law_put sc_put (fun _ _ _ _ _ _ us hl => match us, hl with | [_, _, _, _], _ => rfl) (fun _ _ _ _ h => h.1) (fun cdv A outer s H vs Q E hr h => ?_)
  obtain ⟨_, M, v, n, es, m, g, p, gs, ps, rfl, hv, hin, el, hg, ge, hp, pe, k⟩ := h
  have nd := sc_put.nd
  obtain ⟨ea, xs, rfl, hm, hea, hl, hall, _⟩ := hv.items edgeD es
  refine ⟨_, pss_cons (ps_set (i := 4) nd rfl (Or.inl rfl) (pe_lst pa_nil))
    (pss_cons (ps_for PassesOwn.never rfl (pi_zip (by rfl) T.n_zip (pa_cons (pv 2) (pa_cons (pv 0) pa_nil)))
      (pg_tup rfl (pgs_cons (pg_name (i := 5) nd rfl (Or.inl rfl)) (pgs_cons (pg_tup rfl (pgs_cons (pg_name (i := 6) nd rfl (Or.inl rfl)) (pgs_cons (pg_name (i := 7) nd rfl (Or.inl rfl)) pgs_nil))) pgs_nil)))
      (pss_one (ps_expr (pe_bm PySem.F.plainAttrs_list PySem.F.slot_list_append PySem.F.type_list_append mt_append (pv 4) (pa_cons
        (pe_callG G1 hr rfl T.g_law_low (pa_cons (pe_op op_sub (pe_op op_add (pv 5) (pe_ix ix_list (pv 3) (pv 6) (fun _ _ => rfl))) (pe_ix ix_list (pv 3) (pv 7) (fun _ _ => rfl))) (pa_cons (pv 1) pa_nil))) pa_nil)))))
    (pss_one (ps_ret (pv 4)))), ?_⟩
  refine ⟨by decide, fun F hF => ?_⟩
  have s0 := Same.new (o := .lst []) hF
  refine ⟨_, rfl, _, rfl, g, ea, gs.map V.int, xs, rfl, SqL.of (s0 _ _ hg), SqL.of (s0 _ _ hea), for_it (walk_zip (n := es.length) (xs := gs.map V.int) (ys := xs) (by rw [List.length_map]; omega)) (fun i σ H' => ∃ (x5 x6 x7 : Option V), σ = [some (.ref ea), some (.int m), some (.ref g), some (.ref p), some (.ref F), x5, x6, x7] ∧ Same H H' ∧
    H' F = some (.lst ((swl es m gs ps i).map V.int))) ⟨_, _, _, rfl, s0, upd_same⟩ (fun i σ H' _ ⟨_, _, _, _, sx, _⟩ => ⟨SqL.of (sx _ _ hg), SqL.of (sx _ _ hea)⟩) ?_ ?_⟩
  · rintro i x σ H5 H6 hi ⟨x4, x5, x6, rfl, sx, hF5⟩ ⟨T0, z1, z2, rfl, hT, rfl, e1, e2⟩
    obtain ⟨_, rfl⟩ := ints_get e1
    obtain ⟨hi', dy⟩ := hall.nth e2 (0, 0)
    obtain ⟨t, rfl, ht⟩ := Dd.edge _ dy
    have sT := Same.new (o := .tup [.int (gs.getD i 0), .ref t]) hT
    have sA := Same.trans' sx sT
    have hF6 := sT _ _ hF5
    refine ⟨T0, _, rfl, SqT.of upd_same, rfl, _, _, rfl, _, _, rfl, ⟨t, _, rfl, SqT.of (sA _ _ ht), rfl, _, _, rfl, _, _, rfl, rfl, rfl, ?_⟩⟩
    have hp6 := sA _ _ hp
    obtain ⟨b1, b2⟩ := hin i hi'
    refine ⟨_, rfl, .inl ⟨rfl, _, SqL.of hF6⟩, _, rfl, _, rfl, _, rfl, p, _, _, _, rfl, rfl, SqL.of hp6, ints_at (by omega), _, _, rfl, rfl, ?_⟩
    refine ⟨_, rfl, _, rfl, p, _, _, _, rfl, rfl, SqL.of hp6, ints_at (by omega), _, _, rfl, rfl, _, rfl, rfl, _, m, rfl, ?_⟩
    refine ⟨F, _, _, rfl, rfl, hF6, by rw [List.length_map, swl_len]; show _ < 16777216; omega, _, _, _, rfl, Same.mut sA hF, ?_⟩
    rw [upd_same, swl_succ, ints_snoc]
    rfl
  · rintro σ H5 ⟨x4, x5, x6, rfl, sx, hF5⟩
    exact ⟨_, rfl, k F _ sx hF hF5⟩
end
end Tt
set_option Elab.async false
set_option linter.all false
set_option maxRecDepth 100000
set_option maxHeartbeats 4000000
/-! the law: the chain of reductions -/
namespace Tt
open PySem PySem.Spec PyProof.Rows L2 He
def forBody : Stmt → List Stmt
  | .For _ _ b _ _ => b
  | _ => []
def stmtAt (l : List Stmt) (i : Nat) : Stmt := l.getD i (.Pass ⟨0, 0, 0, 0⟩)
/-- the loop over the chain -/
abbrev s_chain : Stmt := stmtAt (forBody (stmtAt (defBody s_law) 0)) 9
abbrev n_law : List Str := ["_law_script", "_law_k", "_law_pool_here", "_law_nodes", "_law_dial", "_law_links_here", "_law_held", "_law_levels", "_law_goal", "_law_board", "_law_chain", "_law_divisor", "_law_ahead", "_law_twin", "_law_one"]
theorem sc_law : FnScope n_law ["_law_script"] (defScope s_law) := ⟨rfl, rfl, rfl, by decide +kernel, rfl, by decide +kernel, by decide +kernel⟩
/-- each divides what is ahead of it -/
def ChainOk (m : Int) : List Int → Prop
  | [] => True
  | d :: r => 2 ≤ d ∧ d ≤ 60 ∧ m % d = 0 ∧ ChainOk d r
/-- [one % divisor for one in ..] -/
theorem lc_mod {K : PySem.W.Frag} {a D : Addr} {ns : List Int} {d : Int} {σ : L2.St} {H1 : Hp} {Qd : Hp → Prop} (ha : H1 a = some (.lst (ns.map V.int))) (hl : ns.length ≤ 1000) (hd : 0 < d) (hs : σ.length = 15) (h11 : σ[11]? = some (some (.int d))) (hD : H1 D = none)
    (q : ∀ H', Same H1 H' → H' D = some (.lst ((ns.map (· % d)).map V.int)) → Qd H') :
    ∃ W : Nat → Nat → Hp → Prop, (∃ m, W 0 m (upd H1 D (.lst []))) ∧ ∀ i m H, W i m H →
      ((Itl K a).stop i H ∧ Qd H) ∨ ((Itl K a).go i H ∧ ∃ Nx : Hp → Prop, (∀ H', Nx H' → ∃ m', m' < m ∧ W (i + 1) m' H') ∧ ∀ x H', (Itl K a).yld i H x H' → gName 14 x (wipe σ [14]) H' fun σ2 H2 => wipe σ2 [14] = wipe σ [14] ∧ tYes σ2 H2 fun b H3 =>
        if b = true then tOp (rI (fun _ j => 0 < j) fun i j => V.int (i % j)) (tVar 14) (tVar 11) σ2 H3 fun y H4 => ∃ acc, H4 D = some (.lst acc) ∧ acc.length < sizeLine ∧ Nx (upd H4 D (.lst (acc ++ [y]))) else Nx H3) := by
  refine lc_it (walk_list (xs := ns.map V.int)) (fun i H' => Same H1 H' ∧ H' D = some (.lst (((ns.take i).map (· % d)).map V.int))) ⟨Same.new hD, upd_same⟩ (fun i H' _ h => SqL.of (h.1 _ _ ha)) ?_ ?_
  · rintro i z H2 H3 hi ⟨s2, h2⟩ ⟨rfl, hz⟩
    obtain ⟨hi', rfl⟩ := ints_get hz
    have e1 : wipe σ [14] = σ.set 14 none := rfl
    refine ⟨?_, ?_⟩
    · show ((wipe σ [14]).set 14 _).set 14 none = _
      rw [e1, List.set_set, List.set_set]
    refine ⟨.int (ns.getD i 0), ?_, .int d, ?_, _, _, rfl, rfl, hd, _, h2, by simp; show _ < 16777216; omega, Same.mut s2 hD, ?_⟩
    · rw [List.getElem?_set_self (by rw [e1, List.length_set, hs]; decide)]
    · rw [List.getElem?_set_ne (by decide), e1, List.getElem?_set_ne (by decide)]
      exact h11
    · rw [upd_same, ints_snoc, take_next ns i 0 hi']
      simp only [List.map_append, List.map_cons, List.map_nil]
  · rintro H2 ⟨s2, h2⟩
    rw [List.length_map, List.take_of_length_le (Nat.le_refl _)] at h2
    exact q H2 s2 h2
/-- the board within the loop -/
structure Brd (K : PySem.W.Frag) (Hs H : Hp) (bx ch : Addr) (L : List Int) (n : Nat) (es : List Edge) (i : Nat) (dx wa g f lg pst : Addr) (m : Int) (dw : Addr) (ve vf vl : V) (gs ps : List Int) (logs pasts : List V) (lvA goA : Addr) : Prop where
  sm : Same Hs H
  fx : Hs bx = none
  fl : Hs lg = none
  fp : Hs pst = none
  hx : H bx = some (.ins (ga K "Board") dx (bdF wa g f lg pst))
  w : WebAt K (Bd bx lg pst) H wa n es m dw ve vf vl
  o : WebOk n es m
  hg : H g = some (.lst (gs.map V.int))
  ng : ¬ Bd bx lg pst g
  ge : gs.length = es.length
  rg : ResAll m gs
  hf : H f = some (.lst [])
  nf : ¬ Bd bx lg pst f
  hl : H lg = some (.lst logs)
  lo : LogOk H logs
  hp : H pst = some (.lst pasts)
  ll : logs.length ≤ i
  pl : pasts.length ≤ i
  ne : lg ≠ pst
  hc : H ch = some (.lst (L.map V.int))
  nc : ¬ Bd bx lg pst ch
  hv : H lvA = some (.lst (ps.map V.int))
  nv : ¬ Bd bx lg pst lvA
  pe : ps.length = n
  rp : ResAll m ps
  ho : H goA = some (.lst ((swl es m gs ps es.length).map V.int))
  no : ¬ Bd bx lg pst goA
  co : ChainOk m (L.drop i)
theorem Brd.same {K : PySem.W.Frag} {Hs H H' : Hp} {bx ch : Addr} {L : List Int} {n : Nat} {es : List Edge} {i : Nat} {dx wa g f lg pst : Addr} {m : Int} {dw : Addr} {ve vf vl : V} {gs ps : List Int} {logs pasts : List V} {lvA goA : Addr} (B : Brd K Hs H bx ch L n es i dx wa g f lg pst m dw ve vf vl gs ps logs pasts lvA goA) (s : Same H H') :
    Brd K Hs H' bx ch L n es i dx wa g f lg pst m dw ve vf vl gs ps logs pasts lvA goA :=
  ⟨Same.trans' B.sm s, B.fx, B.fl, B.fp, s _ _ B.hx, B.w.same s, B.o, s _ _ B.hg, B.ng, B.ge, B.rg, s _ _ B.hf, B.nf, s _ _ B.hl, (fun v hv => let ⟨t, d, a, b⟩ := B.lo v hv; ⟨t, d, a, s _ _ b⟩), s _ _ B.hp, B.ll, B.pl, B.ne, s _ _ B.hc, B.nc, s _ _ B.hv, B.nv, B.pe, B.rp, s _ _ B.ho, B.no, B.co⟩
/-- what stood ahead of a reduction -/
structure Old (K : PySem.W.Frag) (H : Hp) (a l1 l3 wa t g f : Addr) (n : Nat) (es : List Edge) (m : Int) (dw : Addr) (ve vf vl : V) (gs cs : List Int) : Prop where
  ha : H a = some (.lst [.ref l1, .ref wa, .ref l3])
  h1 : H l1 = some (.lst (gs.map V.int))
  h3 : H l3 = some (.lst (cs.map V.int))
  ht : H t = some (.tup [.ref wa, .ref g, .ref f])
  w : WebAt K no H wa n es m dw ve vf vl
  hg : H g = some (.lst (gs.map V.int))
theorem Old.same {K : PySem.W.Frag} {H H' : Hp} {a l1 l3 wa t g f : Addr} {n : Nat} {es : List Edge} {m : Int} {dw : Addr} {ve vf vl : V} {gs cs : List Int} (o : Old K H a l1 l3 wa t g f n es m dw ve vf vl gs cs) (s : Same H H') : Old K H' a l1 l3 wa t g f n es m dw ve vf vl gs cs :=
  ⟨s _ _ o.ha, s _ _ o.h1, s _ _ o.h3, s _ _ o.ht, o.w.same s, s _ _ o.hg⟩
theorem webF_ne {K : PySem.W.Frag} {C C' dx dx' wa g f lg pst : Addr} {n : Nat} {m : Int} {ve vf vl : V} : HO.ins C dx (webF n m ve vf vl) ≠ HO.ins C' dx' (bdF wa g f lg pst) := by
  intro z
  injection z with _ _ h3
  have h4 : (["own_size", "own_edges", "own_modulus", "own_forest", "links"] : List Str) = (["own_web", "own_gains", "own_fixed", "own_log", "past"] : List Str) := congrArg (List.map Prod.fst) h3
  exact absurd h4 (by decide)
theorem eqv_ints (as : List Int) : (!PyData.eqv (intsD as) (intsD as)) = false := by
  rw [SeqAt.eqv_refl (intsD as) (SeqAt.canLay_of_shaped ((shp_ints as).shaped (by decide)))]; rfl
theorem dp_ints {K : PySem.W.Frag} {H : Hp} {a : Addr} {as : List Int} (h : H a = some (.lst (as.map V.int))) : Dp K H (.ref a) (intsD as) := .lst (SqL.of h) (DdAll.dp (M := no) _ _ (DdAll.ints as))
section
variable {P : Program} {w : World} {K : PySem.W.Frag} {mg : Str → Option Value} {base : Heap}
theorem law_chain (T : Tx K mg) (cdv : Value) (A : Around) (outer : List Env) (s : Shared) (H00 : Hp) (E : XK) (f0 : Addr) (hr : Room 10 (A.deeper (envOfC "law" (defScope s_law) s.heap.objs.size f0 cdv))) :
    ∃ t, PS (cxOf CX0 P w K mg base n_law "law" (defScope s_law) f0 cdv A outer s H00 E).nox s_chain t ∧
      ∀ (D : Ends) (Hs H : Hp) (bx ch : Addr) (L : List Int) (n : Nat) (es : List Edge) (dx wa g f lg pst : Addr) (m : Int) (dw : Addr) (ve vf vl : V) (gs ps : List Int) (lvA goA : Addr) (x0 x1 x2 x3 x4 x5 x6 x11 x12 x13 : Option V),
        L.length ≤ 10 → Brd K Hs H bx ch L n es 0 dx wa g f lg pst m dw ve vf vl gs ps [] [] lvA goA →
        (∀ σ H' y1 y2 y3 y4 y5 y6 y7 y8 y9 y10 y11 y12 y13, σ = [x0, y1, y2, y3, y4, y5, y6, y7, y8, y9, y10, y11, y12, y13, none] → Same Hs H' → D.nx σ H') →
        t D [x0, x1, x2, x3, x4, x5, x6, some (.ref lvA), some (.ref goA), some (.ref bx), some (.ref ch), x11, x12, x13, none] H := by
  have G1 : Gd P w K mg base 10 (ma K (ga K "Board") "gains") ["self"] (spBgains K) := (ok_bgains T).mono (by decide)
  have G2 : Gd P w K mg base 10 (ma K (ga K "Board") "web") ["self"] (spBweb K) := (ok_bweb T).mono (by decide)
  have G3 : Gd P w K mg base 10 (ma K (ga K "Board") "cycle_sums") ["self"] (spBcs K) := (ok_bcs T).mono (by decide)
  have G4 : Gd P w K mg base 10 (ma K (ga K "Board") "reduce") ["self", "modulus"] (spReduce K) := ok_reduce T
  have G5 : Gd P w K mg base 10 (ma K (ga K "Web") "modulus") ["self"] (spWmod K) := (ok_wmod T).mono (by decide)
  have G6 : GdD P w K mg base 10 (ga K "is_transform") ["web", "before", "after", "thing", "fixed"] (spIst K) [V.ref (kwdAt ("is_transform", none) "fixed" K)] := (ok_ist T).mono (by decide)
  have G7 : Gd P w K mg base 10 (ma K (ga K "Board") "transform") ["self", "after"] (spBtr K) := (ok_btr T).mono (by decide)
  have G8 : Gd P w K mg base 10 (ma K (ga K "Board") "twin") ["self"] (spTwin K) := (ok_twin T).mono (by decide)
  have G9 : Gd P w K mg base 10 (ma K (ga K "Board") "undo") ["self"] (spUndo K) := (ok_undo T).mono (by decide)
  have nd := sc_law.nd
  have hu := hr.units
  have hu1 := (Room.in1 (k := 9) hr).units
  have hu0 := hr.units0
  refine ⟨_, ps_for PassesOwn.never rfl (pi_list (pv 10)) (pg_name (i := 11) nd rfl (Or.inr rfl))
    (pss_cons (ps_set (i := 12) nd rfl (Or.inl rfl) (pe_lst (pa_cons (pe_methG0 (pv 9) T.c_Board T.m_Board_gains G1 hr) (pa_cons (pe_methG0 (pv 9) T.c_Board T.m_Board_web G2 hr) (pa_cons (pe_methG0 (pv 9) T.c_Board T.m_Board_cycle_sums G3 hr) pa_nil)))))
    (pss_cons (ps_expr (pe_methG (pv 9) T.c_Board T.m_Board_reduce G4 hr (pa_cons (pv 11) pa_nil)))
    (pss_cons (ps_setLc (i := 8) (own := [("_law_one", 14)]) (g := gName 14) (tt := tYes) rfl nd rfl rfl (sw_true rfl rfl rfl (by decide +kernel)) (pi_list (pv 8)) (blkOk_by (N := n_law) (sc := defScope s_law) (by decide +kernel))
        (fun _ _ _ _ _ => pg_name (i := 14) nd rfl (Or.inl rfl)) (fun _ _ _ _ _ => pts_nil) (fun _ _ _ _ _ => pe_op op_mod (pv 14) (pv 11)))
    (pss_cons (ps_setLc (i := 7) (own := [("_law_one", 14)]) (g := gName 14) (tt := tYes) rfl nd rfl rfl (sw_true rfl rfl rfl (by decide +kernel)) (pi_list (pv 7)) (blkOk_by (N := n_law) (sc := defScope s_law) (by decide +kernel))
        (fun _ _ _ _ _ => pg_name (i := 14) nd rfl (Or.inl rfl)) (fun _ _ _ _ _ => pts_nil) (fun _ _ _ _ _ => pe_op op_mod (pv 14) (pv 11)))
    (pss_cons (ps_if (PW.pt (pw_or (pt_cmpR (op_neD hu) (pe_methG0 (pv 9) T.c_Board T.m_Board_gains G1 hr) (pe_lc (own := [("_law_one", 14)]) (g := gName 14) (tt := tYes) rfl nd (pi_list (pe_ix ix_list (pv 12) pe_int (fun _ _ => rfl))) (blkOk_by (N := n_law) (sc := defScope s_law) (by decide +kernel))
          (fun _ _ _ _ _ => pg_name (i := 14) nd rfl (Or.inl rfl)) (fun _ _ _ _ _ => pts_nil) (fun _ _ _ _ _ => pe_op op_mod (pv 14) (pv 11))) (nomark _))
        (pw_or1 (pt_cmpR op_ne (pe_methG0 (pe_methG0 (pv 9) T.c_Board T.m_Board_web G2 hr) T.c_Web T.m_Web_modulus G5 hr) (pv 11) (nomark _))))) pss_never pss_nil)
    (pss_cons (ps_if (pt_cmpR (op_neD hu) (pe_methG0 (pv 9) T.c_Board T.m_Board_cycle_sums G3 hr) (pe_lc (own := [("_law_one", 14)]) (g := gName 14) (tt := tYes) rfl nd (pi_list (pe_ix ix_list (pv 12) pe_int (fun _ _ => rfl))) (blkOk_by (N := n_law) (sc := defScope s_law) (by decide +kernel))
          (fun _ _ _ _ _ => pg_name (i := 14) nd rfl (Or.inl rfl)) (fun _ _ _ _ _ => pts_nil) (fun _ _ _ _ _ => pe_op op_mod (pv 14) (pv 11))) (nomark _)) pss_never pss_nil)
    (pss_cons (ps_if (pt_not (pt_val (pe_callDG G6 hr rfl T.g_is_transform (pa_cons (pe_methG0 (pv 9) T.c_Board T.m_Board_web G2 hr) (pa_cons (pe_methG0 (pv 9) T.c_Board T.m_Board_gains G1 hr) (pa_cons (pv 8) (pa_cons (pe_tup (pa_cons pe_str (pa_cons (pv 7) pa_nil))) pa_nil))))))) pss_never pss_nil)
    (pss_cons (ps_if (pt_cmpR op_ne (pe_ix ix_tup (pe_methG (pv 9) T.c_Board T.m_Board_transform G7 hr (pa_cons (pv 8) pa_nil)) pe_int (fun _ _ => rfl)) pe_str (nomark _)) pss_never pss_nil)
    (pss_cons (ps_set (i := 13) nd rfl (Or.inl rfl) (pe_methG0 (pv 9) T.c_Board T.m_Board_twin G8 hr))
    (pss_cons (ps_expr (pe_methG0 (pv 13) T.c_Board T.m_Board_undo G9 hr))
    (pss_one (ps_if (pt_cmpR (op_neMix hu1 hu0) (pe_lst (pa_cons (pe_methG0 (pv 13) T.c_Board T.m_Board_gains G1 hr) (pa_cons (pe_methG0 (pv 13) T.c_Board T.m_Board_web G2 hr) (pa_cons (pe_methG0 (pv 13) T.c_Board T.m_Board_cycle_sums G3 hr) pa_nil)))) (pv 12) (nomark _)) pss_never pss_nil)))))))))))), ?_⟩
  intro D Hs H bx ch L n es dx wa g f lg pst m dw ve vf vl gs ps lvA goA x0 x1 x2 x3 x4 x5 x6 x11 x12 x13 hL B hk
  refine ⟨_, rfl, ch, rfl, ⟨_, SqL.of B.hc⟩, for_it (walk_list (xs := L.map V.int)) (fun i σ H' => ∃ (dx wa g f lg pst : Addr) (m : Int) (dw : Addr) (ve vf vl : V) (gs ps : List Int) (logs pasts : List V) (lvA goA : Addr) (y11 y12 y13 : Option V),
    σ = [x0, x1, x2, x3, x4, x5, x6, some (.ref lvA), some (.ref goA), some (.ref bx), some (.ref ch), y11, y12, y13, none] ∧ Brd K Hs H' bx ch L n es i dx wa g f lg pst m dw ve vf vl gs ps logs pasts lvA goA)
    ⟨dx, wa, g, f, lg, pst, m, dw, ve, vf, vl, gs, ps, [], [], lvA, goA, x11, x12, x13, rfl, B⟩ (fun i σ H' _ ⟨_, _, _, _, _, _, _, _, _, _, _, _, _, _, _, _, _, _, _, _, _, B⟩ => SqL.of B.hc) ?_ ?_⟩
  · rintro i z σ H1 H2 hi ⟨dx, wa, g, f, lg, pst, m, dw, ve, vf, vl, gs, ps, logs, pasts, lvA, goA, y11, y12, y13, rfl, B⟩ ⟨rfl, hz⟩
    obtain ⟨hi', rfl⟩ := ints_get hz
    have hdrop : L.drop i = L.getD i 0 :: L.drop (i + 1) := by
      rw [List.drop_eq_getElem_cons hi']
      simp [List.getD, List.getElem?_eq_getElem hi']
    have co := B.co
    rw [hdrop] at co
    generalize L.getD i 0 = d at co hz ⊢
    obtain ⟨d2, d60, dm, co'⟩ := co
    have hd : 0 < d := by omega
    have o1 := B.o.l
    have o2 := B.o.n30
    have m0 := B.o.m0
    have gl1000 : gs.length ≤ 1000 := by have := B.ge; omega
    have pl1000 : ps.length ≤ 1000 := by have := B.pe; omega
    have nB : ∀ {b : Addr}, b ≠ bx → b ≠ lg → b ≠ pst → ¬ Bd bx lg pst b := fun h1 h2 h3 h => h.elim h1 fun h => h.elim h2 h3
    have nBn : ∀ {b : Addr}, H2 b = none → ¬ Bd bx lg pst b := fun e h => by
      rcases h with rfl | rfl | rfl
      · rw [B.hx] at e; cases e
      · rw [B.hl] at e; cases e
      · rw [B.hp] at e; cases e
    have nBt : ∀ {b : Addr} {u : List V}, H2 b = some (.tup u) → ¬ Bd bx lg pst b := fun e h => by
      rcases h with rfl | rfl | rfl
      · rw [B.hx] at e; cases e
      · rw [B.hl] at e; cases e
      · rw [B.hp] at e; cases e
    have nwa : ¬ Bd bx lg pst wa := nB (ne_of B.w.at_ B.hx (webF_ne (K := K))) (ne_of B.w.at_ B.hl (by intro z; cases z)) (ne_of B.w.at_ B.hp (by intro z; cases z))
    have noW : ∀ {H : Hp} {wa : Addr} {m : Int} {dw : Addr} {ve vf vl : V}, WebAt K (Bd bx lg pst) H wa n es m dw ve vf vl → WebAt K no H wa n es m dw ve vf vl := fun h => h.less fun b z => z.elim
    -- ahead
    refine ⟨_, rfl, bx, dx, _, rfl, B.hx, rfl, rfl, bx, dx, wa, g, f, lg, pst, gs, rfl, B.hx, B.hg, fun l1 hl1 => ?_⟩
    have s1 := Same.new (o := .lst (gs.map V.int)) hl1
    have h11 : upd H2 l1 (.lst (gs.map V.int)) l1 = some (.lst (gs.map V.int)) := upd_same
    have B1 := B.same s1
    refine ⟨_, rfl, bx, dx, _, rfl, B1.hx, rfl, rfl, bx, dx, wa, g, f, lg, pst, rfl, B1.hx, ?_⟩
    refine ⟨_, rfl, bx, dx, _, rfl, B1.hx, rfl, rfl, bx, dx, wa, g, f, lg, pst, n, es, m, dw, ve, vf, vl, gs, rfl, B1.hx, noW B1.w, B1.o, B1.hg, B1.rg, B1.ge, fun l3 H3 s3 n3 h33 => ?_⟩
    refine ⟨by show 3 ≤ sizeLine; decide, fun a ha => ?_⟩
    have s4 := Same.new (o := .lst [.ref l1, .ref wa, .ref l3]) ha
    have ha4 : upd H3 a (.lst [.ref l1, .ref wa, .ref l3]) a = some (.lst [.ref l1, .ref wa, .ref l3]) := upd_same
    have s14 := Same.trans' s1 (Same.trans' s3 s4)
    have B4 := B.same s14
    have h14 := s4 _ _ (s3 _ _ h11)
    have h34 := s4 _ _ h33
    have nBl1 := nBn hl1
    have nBl3 := nBn (Same.back s1 n3)
    have nBa := nBn (Same.back s1 (Same.back s3 ha))
    generalize upd H3 a (.lst [.ref l1, .ref wa, .ref l3]) = H4 at s4 ha4 s14 B4 h14 h34 ⊢
    -- reduce
    have il := hi'
    refine ⟨_, rfl, bx, dx, _, rfl, B4.hx, rfl, _, rfl, rfl, bx, d, rfl, dx, wa, g, f, lg, pst, n, es, m, dw, ve, vf, vl, gs, logs, pasts, ⟨B4.hx, B4.w, B4.o, B4.hg, B4.ng, B4.ge, d2, d60, dm, B4.hl, B4.hp, by have := B.ll; omega, by have := B.pl; omega, B4.ne⟩, fun H5 wa' g' dw' ve' vf' vl' t tl sb hx5 w5 nwa5 ng5 hg5 hl5 htl5 hp5 ht5 => ?_⟩
    rw [redAll hd] at hg5
    have old5 : Old K H5 a l1 l3 wa t g f n es m dw ve vf vl gs (csums n es m gs) := ⟨sb _ _ nBa ha4, sb _ _ nBl1 h14, sb _ _ nBl3 h34, ht5, noW (B4.w.sb sb (fun _ h => h) nwa), sb _ _ B.ng B4.hg⟩
    have ho5 := sb _ _ B.no B4.ho
    have hv5 := sb _ _ B.nv B4.hv
    have hc5 := sb _ _ B.nc B4.hc
    have hf5 := sb _ _ B.nf B4.hf
    have sm5 : Same Hs H5 := fun b o e => sb b o (fun z => by
      rcases z with rfl | rfl | rfl
      · rw [B.fx] at e; cases e
      · rw [B.fl] at e; cases e
      · rw [B.fp] at e; cases e) (B4.sm _ _ e)
    have lo5 : LogOk H5 (logs ++ [.ref tl]) := fun v hv => by
      rcases List.mem_append.mp hv with hv | hv
      · obtain ⟨t', d', e1, e2⟩ := B.lo v hv
        exact ⟨t', d', e1, sb _ _ (nBt e2) (s14 _ _ e2)⟩
      · exact ⟨tl, d, List.mem_singleton.mp hv, htl5⟩
    -- the residues of the goal, of the levels
    refine ⟨_, rfl, goA, rfl, ⟨_, SqL.of ho5⟩, fun D1 hD1 => lc_mod ho5 (by rw [swl_len]; omega) hd rfl rfl hD1 fun H6 s6 h6 => ?_⟩
    refine ⟨_, rfl, lvA, rfl, ⟨_, SqL.of (s6 _ _ hv5)⟩, fun D2 hD2 => lc_mod (s6 _ _ hv5) pl1000 hd rfl rfl hD2 fun H7 s7 h7 => ?_⟩
    have s57 := Same.trans' s6 s7
    have nB5 : ∀ {b : Addr}, H5 b = none → ¬ Bd bx lg pst b := fun e h => by
      rcases h with rfl | rfl | rfl
      · rw [hx5] at e; cases e
      · rw [hl5] at e; cases e
      · rw [hp5] at e; cases e
    have nBg' : ¬ Bd bx lg pst g' := fun h => by
      rcases h with rfl | rfl | rfl
      · rw [B4.hx] at ng5; cases ng5
      · rw [B4.hl] at ng5; cases ng5
      · rw [B4.hp] at ng5; cases ng5
    have ho7 := s7 _ _ h6
    rw [← swl_red hd m0 dm] at ho7
    have N7 : Brd K Hs H7 bx ch L n es (i + 1) dx wa' g' f lg pst d dw' ve' vf' vl' (gs.map (· % d)) (ps.map (· % d)) (logs ++ [.ref tl]) (pasts ++ [.ref t]) D2 D1 :=
      ⟨Same.trans' sm5 s57, B.fx, B.fl, B.fp, s57 _ _ hx5, w5.same s57, webOk_red B.o d2 d60, s57 _ _ hg5, nBg', by rw [List.length_map]; exact B.ge, res_mod hd gs, s57 _ _ hf5, B.nf, s57 _ _ hl5, (fun v hv => let ⟨t', d', e1, e2⟩ := lo5 v hv; ⟨t', d', e1, s57 _ _ e2⟩), s57 _ _ hp5,
        by rw [List.length_append, List.length_singleton]; have := B.ll; omega, by rw [List.length_append, List.length_singleton]; have := B.pl; omega, B.ne, s57 _ _ hc5, B.nc, h7, nB5 (Same.back s6 hD2), by rw [List.length_map]; exact B.pe, res_mod hd ps, ho7, nB5 hD1, co'⟩
    have O7 := old5.same s57
    -- the gains are the residues
    refine ⟨_, rfl, bx, dx, _, rfl, N7.hx, rfl, rfl, bx, dx, wa', g', f, lg, pst, gs.map (· % d), rfl, N7.hx, N7.hg, fun l5 hl5' => ?_⟩
    have s8 := Same.new (o := .lst ((gs.map (· % d)).map V.int)) hl5'
    have h58 : upd H7 l5 (.lst ((gs.map (· % d)).map V.int)) l5 = some (.lst ((gs.map (· % d)).map V.int)) := upd_same
    have N8 := N7.same s8
    have O8 := O7.same s8
    generalize upd H7 l5 (.lst ((gs.map (· % d)).map V.int)) = H8 at s8 h58 N8 O8 ⊢
    refine ⟨_, rfl, a, _, 0, .ref l1, rfl, rfl, SqL.of O8.ha, rfl, l1, rfl, ⟨_, SqL.of O8.h1⟩, fun D3 hD3 => lc_mod O8.h1 gl1000 hd rfl rfl hD3 fun H9 s9 h9 => ?_⟩
    have N9 := N8.same s9
    have O9 := O8.same s9
    refine ⟨intsD (gs.map (· % d)), intsD (gs.map (· % d)), dp_ints (s9 _ _ h58), dp_ints h9, (shp_ints _).shaped (by decide), (shp_ints _).shaped (by decide), _, rfl, iteN (eqv_ints _) ?_⟩
    refine ⟨_, rfl, bx, dx, _, rfl, N9.hx, rfl, rfl, bx, dx, wa', g', f, lg, pst, rfl, N9.hx, wa', dw', _, rfl, N9.w.at_, rfl, rfl, _, wa', n, es, d, dw', ve', vf', vl', rfl, N9.w, _, rfl, rfl, _, rfl, iteN (by rw [decide_eq_true rfl]; rfl) ?_⟩
    -- the cycle sums are the residues
    refine ⟨_, rfl, bx, dx, _, rfl, N9.hx, rfl, rfl, bx, dx, wa', g', f, lg, pst, n, es, d, dw', ve', vf', vl', gs.map (· % d), rfl, N9.hx, noW N9.w, N9.o, N9.hg, N9.rg, N9.ge, fun l6 H10 s10 n6 h610 => ?_⟩
    rw [csums_red hd m0 dm] at h610
    have N10 := N9.same s10
    have O10 := O9.same s10
    have csl : (csums n es m gs).length ≤ 1000 := by
      have := cycs_len (n := n) (es := es) es.length
      show ((cycles n es).map _).length ≤ 1000
      rw [List.length_map]
      exact Nat.le_trans this (by omega)
    refine ⟨_, rfl, a, _, 2, .ref l3, rfl, rfl, SqL.of O10.ha, rfl, l3, rfl, ⟨_, SqL.of O10.h3⟩, fun D4 hD4 => lc_mod O10.h3 csl hd rfl rfl hD4 fun H11 s11 h411 => ?_⟩
    have N11 := N10.same s11
    have O11 := O10.same s11
    refine ⟨intsD ((csums n es m gs).map (· % d)), intsD ((csums n es m gs).map (· % d)), dp_ints (s11 _ _ h610), dp_ints h411, (shp_ints _).shaped (by decide), (shp_ints _).shaped (by decide), _, rfl, iteN (eqv_ints _) ?_⟩
    -- the levels lead there
    refine ⟨_, rfl, bx, dx, _, rfl, N11.hx, rfl, rfl, bx, dx, wa', g', f, lg, pst, rfl, N11.hx, ?_⟩
    refine ⟨_, rfl, bx, dx, _, rfl, N11.hx, rfl, rfl, bx, dx, wa', g', f, lg, pst, gs.map (· % d), rfl, N11.hx, N11.hg, fun l7 hl7 => ?_⟩
    have s12 := Same.new (o := .lst ((gs.map (· % d)).map V.int)) hl7
    have h712 : upd H11 l7 (.lst ((gs.map (· % d)).map V.int)) l7 = some (.lst ((gs.map (· % d)).map V.int)) := upd_same
    have N12 := N11.same s12
    have O12 := O11.same s12
    generalize upd H11 l7 (.lst ((gs.map (· % d)).map V.int)) = H12 at s12 h712 N12 O12 ⊢
    refine ⟨_, rfl, _, rfl, by show 2 ≤ sizeLine; decide, fun tp htp => ?_⟩
    have s13 := Same.new (o := .tup [.str "potential", .ref D2]) htp
    have ht13 : upd H12 tp (.tup [.str "potential", .ref D2]) tp = some (.tup [.str "potential", .ref D2]) := upd_same
    have N13 := N12.same s13
    have O13 := O12.same s13
    have h713 := s13 _ _ h712
    generalize upd H12 tp (.tup [.str "potential", .ref D2]) = H13 at s13 ht13 N13 O13 h713 ⊢
    have rgo : ResAll d (swl es d (gs.map (· % d)) (ps.map (· % d)) es.length) := res_swl (by omega)
    refine ⟨rfl, wa', n, es, d, dw', ve', vf', vl', l7, D1, tp, D2, _, gs.map (· % d), swl es d (gs.map (· % d)) (ps.map (· % d)) es.length, ps.map (· % d), rfl, noW N13.w, N13.o, h713, N13.ge, N13.rg, N13.ho, swl_len, rgo, ht13, N13.hv, N13.rp, N13.pe, T.e_is_transform, rfl, fun H14 s14' => ⟨true, rfl, iteF ?_⟩⟩
    have N14 := N13.same s14'
    have O14 := O13.same s14'
    -- transform answers with a potential
    refine ⟨_, rfl, bx, dx, _, rfl, N14.hx, rfl, _, rfl, rfl, bx, dx, wa', g', f, lg, pst, D1, n, es, d, dw', ve', vf', vl', gs.map (· % d), swl es d (gs.map (· % d)) (ps.map (· % d)) es.length, rfl, N14.hx, noW N14.w, N14.o, N14.hg, N14.ge, N14.rg, N14.ho, swl_len, rgo, N14.hf, noCyc N14.o.e N14.o.m0, fun tr yr H15 s15 htr => ?_⟩
    have N15 := N14.same s15
    have O15 := O14.same s15
    refine ⟨tr, _, _, .str "potential", rfl, rfl, SqT.of htr, rfl, rfl, _, rfl, iteN (by rw [decide_eq_true rfl]; rfl) ?_⟩
    -- the twin, its undo
    have lln := N15.ll
    refine ⟨_, rfl, bx, dx, _, rfl, N15.hx, rfl, rfl, bx, dx, wa', g', f, lg, pst, n, es, d, dw', ve', vf', vl', gs.map (· % d), logs ++ [.ref tl], pasts ++ [.ref t], rfl, N15.hx, noW N15.w, N15.o, N15.hg, N15.rg, N15.ge, N15.hf, N15.hl, N15.lo, by omega, N15.hp, fun ty dy g2 f2 lg2 pst2 logs2 H16 s16 hy16 hlg16 ll16 hps16 ny nlg nps ne2 => ?_⟩
    have N16 := N15.same s16
    have O16 := O15.same s16
    refine ⟨_, rfl, ty, dy, _, rfl, hy16, rfl, rfl, ty, dy, wa', g2, f2, lg2, pst2, t, wa, g, f, logs2, pasts, rfl, hy16, hlg16, (fun z => by rw [z] at ll16; simp at ll16), hps16, O16.ht, ne2, fun H17 sb17 hy17 => ?_⟩
    have s17 : Same H15 H17 := fun b o e => sb17 b o (fun z => by
      rcases z with rfl | rfl | rfl
      · rw [ny] at e; cases e
      · rw [nlg] at e; cases e
      · rw [nps] at e; cases e) (s16 _ _ e)
    have N17 := N15.same s17
    have O17 := O15.same s17
    -- as ahead
    refine ⟨_, rfl, ty, dy, _, rfl, hy17, rfl, rfl, ty, dy, wa, g, f, lg2, pst2, gs, rfl, hy17, O17.hg, fun l8 hl8 => ?_⟩
    have s18 := Same.new (o := .lst (gs.map V.int)) hl8
    have h818 : upd H17 l8 (.lst (gs.map V.int)) l8 = some (.lst (gs.map V.int)) := upd_same
    have hy18 := s18 _ _ hy17
    have N18 := N17.same s18
    have O18 := O17.same s18
    generalize upd H17 l8 (.lst (gs.map V.int)) = H18 at s18 h818 hy18 N18 O18 ⊢
    refine ⟨_, rfl, ty, dy, _, rfl, hy18, rfl, rfl, ty, dy, wa, g, f, lg2, pst2, rfl, hy18, ?_⟩
    refine ⟨_, rfl, ty, dy, _, rfl, hy18, rfl, rfl, ty, dy, wa, g, f, lg2, pst2, n, es, m, dw, ve, vf, vl, gs, rfl, hy18, O18.w, B.o, O18.hg, B.rg, B.ge, fun l9 H19 s19 n9 h919 => ?_⟩
    refine ⟨by show 3 ≤ sizeLine; decide, fun q hq => ?_⟩
    have s20 := Same.new (o := .lst [.ref l8, .ref wa, .ref l9]) hq
    have hq20 : upd H19 q (.lst [.ref l8, .ref wa, .ref l9]) q = some (.lst [.ref l8, .ref wa, .ref l9]) := upd_same
    have N20 := N18.same (Same.trans' s19 s20)
    have O20 := O18.same (Same.trans' s19 s20)
    have h820 := s20 _ _ (s19 _ _ h818)
    have h920 := s20 _ _ h919
    generalize upd H19 q (.lst [.ref l8, .ref wa, .ref l9]) = H20 at s20 hq20 N20 O20 h820 h920 ⊢
    refine ⟨_, rfl, q, a, _, _, rfl, rfl, SqL.of hq20, SqL.of O20.ha, rfl, fun j x y hx hy => ?_, _, rfl, iteF ?_⟩
    · match j, hx, hy with
      | 0, hx, hy =>
        obtain rfl : V.ref l8 = x := Option.some.inj hx
        obtain rfl : V.ref l1 = y := Option.some.inj hy
        exact .inr ⟨intsD gs, dp_ints h820, dp_ints O20.h1, (shp_ints _).shaped (by decide)⟩
      | 1, hx, hy =>
        obtain rfl : V.ref wa = x := Option.some.inj hx
        obtain rfl : V.ref wa = y := Option.some.inj hy
        exact .inl ⟨wa, rfl, rfl⟩
      | 2, hx, hy =>
        obtain rfl : V.ref l9 = x := Option.some.inj hx
        obtain rfl : V.ref l3 = y := Option.some.inj hy
        exact .inr ⟨intsD (csums n es m gs), dp_ints h920, dp_ints O20.h3, (shp_ints _).shaped (by decide)⟩
      | (j + 3), hx, hy => cases hx
    exact ⟨dx, wa', g', f, lg, pst, d, dw', ve', vf', vl', gs.map (· % d), ps.map (· % d), logs ++ [.ref tl], pasts ++ [.ref t], D2, D1, _, _, _, rfl, N20⟩
  · rintro σ H' ⟨dx, wa, g, f, lg, pst, m, dw, ve, vf, vl, gs, ps, logs, pasts, lvA, goA, y11, y12, y13, rfl, B⟩
    exact hk _ H' _ _ _ _ _ _ _ _ _ _ _ _ _ rfl B.sm
end
end Tt
set_option Elab.async false
set_option linter.all false
set_option maxRecDepth 100000
set_option maxHeartbeats 4000000
/-! the law -/
namespace Tt
open PySem PySem.Spec PyProof.Rows L2 He
def chainB (m : Int) : List Int → Bool
  | [] => true
  | d :: r => decide (2 ≤ d) && decide (d ≤ 60) && decide (m % d = 0) && chainB d r
theorem chainOk_of : ∀ (L : List Int) {m : Int}, chainB m L = true → ChainOk m L
  | [], _, _ => trivial
  | d :: r, m, h => by
    simp only [chainB, Bool.and_eq_true, decide_eq_true_eq] at h
    exact ⟨h.1.1.1, h.1.1.2, h.1.2, chainOk_of r h.2⟩
def chains : List (List Int) := [[60, 12, 4, 2], [12, 6, 3], [60, 30, 10, 5], [4, 2], [6, 2], [3]]
def keepD (m : Int) (L : List Int) : List Int := L.filter fun d => decide (m % d = 0)
theorem chains_ok : ∀ L, L ∈ chains → chainB 0 L = true ∧ chainB 12 (keepD 12 L) = true ∧ chainB 60 (keepD 60 L) = true ∧ L.length ≤ 4 ∧ (L.all fun d => decide (2 ≤ d)) = true := by decide +kernel
theorem SqL.same' {K : PySem.W.Frag} {H H' : Hp} {a : Addr} {xs : List V} (h : SqL K H a xs) (s : Same H H') : SqL K H' a xs := by
  rcases h with (h | ⟨o, h⟩) | h
  · exact .inl (.inl (s _ _ h))
  · exact .inl (.inr ⟨o, s _ _ h⟩)
  · exact .inr h
theorem PoolAt.keep {H H' : Hp} {pl : Addr} (h : PoolAt H pl) (k : ∀ o, H pl = some o → H' pl = some o) : PoolAt H' pl := let ⟨a, b, e, r⟩ := h; ⟨a, b, k _ e, r⟩
section
variable {P : Program} {w : World} {K : PySem.W.Frag} {mg : Str → Option Value} {base : Heap}
def spLaw (K : PySem.W.Frag) : Sp := fun vs H Q _ => ∃ (a : Addr) (ns : List Int), vs = [.ref a] ∧ SqL K H a (ns.map V.int) ∧ ∀ H', Q (.bl true) H'
theorem ok_law (T : Tx K mg) {fd : FuncData} (F : FunD K "law" "law" (defArgs s_law) (defBody s_law) (defScope s_law) [] [] (ga K "law") fd) : FnOk P w K mg base CX0 11 (ga K "law") fd ["_law_script"] (spLaw K) := by
  have G1 : Gd P w K mg base 10 (ga K "_law_pool") ["_law_script", "_law_k"] (spPool K) := (ok_pool T).mono (by decide)
  have G2 : Gd P w K mg base 10 (ga K "_law_take") ["_law_pool_here", "_law_sides"] spTake := (ok_take T).mono (by decide)
  have G3 : Gd P w K mg base 10 (ga K "_law_links") ["_law_pool_here", "_law_nodes", "_law_most"] spLnks := (ok_lnks T).mono (by decide)
  have G4 : Gd P w K mg base 10 (ga K "_law_numbers") ["_law_pool_here", "_law_dial", "_law_count"] spNums := (ok_nums T).mono (by decide)
  have G5 : Gd P w K mg base 10 (ga K "_law_put") ["_law_links_here", "_law_dial", "_law_gains_here", "_law_levels"] spPut := (ok_put T).mono (by decide)
  have G6 : GdK P w K mg base 9 (ma K (ga K "Web") "__init__") n_winit (spWinit K) 3 ["modulus"] (fun vs zs => vs ++ zs) := (ok_winit T).mono (by decide)
  have G7 : GdD P w K mg base 9 (ma K (ga K "Board") "__init__") n_binit (spBinit K) [V.ref (kwdAt ("Board", some "__init__") "fixed" K)] := (ok_binitD T).mono (by decide)
  refine fnok_of F sc_law (fun vs H Q E h => ?_) (fun cdv A outer s H vs Q E hr h => ?_)
  · obtain ⟨a, ns, rfl, _⟩ := h
    rfl
  obtain ⟨sa, ns, rfl, hS, hQ⟩ := h
  have nd := sc_law.nd
  have hu := hu_of hr
  obtain ⟨tc, pc, rc⟩ := law_chain (P := P) (w := w) (base := base) T cdv A outer s H E (ga K "law") hr
  refine ⟨_, pss_cons (ps_for PassesOwn.never rfl (pi_range1 (by rfl) T.n_range (pa_cons (pe_callB (call_max2 rfl) (by rfl) T.n_max (by decide +kernel) (pa_cons pe_int (pa_cons (pe_callB (call_min2 rfl) (by rfl) T.n_min (by decide +kernel) (pa_cons (pe_len (pv 0) rfl T.n_len) (pa_cons pe_int pa_nil))) pa_nil))) pa_nil)) (pg_name (i := 1) nd rfl (Or.inl rfl))
      (pss_cons (ps_set (i := 2) nd rfl (Or.inl rfl) (pe_callG G1 hr rfl T.g_law_pool (pa_cons (pv 0) (pa_cons (pv 1) pa_nil))))
      (pss_cons (ps_asg (pe_tup (pa_cons (pe_op op_add pe_int (pe_callG G2 hr rfl T.g_law_take (pa_cons (pv 2) (pa_cons pe_int pa_nil)))) (pa_cons (pe_ix ix_list (pe_lst (pa_cons pe_int (pa_cons pe_int (pa_cons pe_int pa_nil)))) (pe_callG G2 hr rfl T.g_law_take (pa_cons (pv 2) (pa_cons pe_int pa_nil))) (fun _ _ => rfl)) pa_nil)))
        (pg_tup rfl (pgs_cons (pg_name (i := 3) nd rfl (Or.inl rfl)) (pgs_cons (pg_name (i := 4) nd rfl (Or.inr rfl)) pgs_nil))))
      (pss_cons (ps_set (i := 5) nd rfl (Or.inl rfl) (pe_callG G3 hr rfl T.g_law_links (pa_cons (pv 2) (pa_cons (pv 3) (pa_cons pe_int pa_nil)))))
      (pss_cons (ps_set (i := 6) nd rfl (Or.inl rfl) (pe_callG G4 hr rfl T.g_law_numbers (pa_cons (pv 2) (pa_cons (pv 4) (pa_cons (pe_len (pv 5) rfl T.n_len) pa_nil)))))
      (pss_cons (ps_set (i := 7) nd rfl (Or.inl rfl) (pe_callG G4 hr rfl T.g_law_numbers (pa_cons (pv 2) (pa_cons (pv 4) (pa_cons (pv 3) pa_nil)))))
      (pss_cons (ps_set (i := 8) nd rfl (Or.inl rfl) (pe_callG G5 hr rfl T.g_law_put (pa_cons (pv 5) (pa_cons (pv 4) (pa_cons (pv 6) (pa_cons (pv 7) pa_nil))))))
      (pss_cons (ps_set (i := 9) nd rfl (Or.inl rfl) (pe_makeDG T.k_Board G7 hr rfl T.g_Board (pa_cons (pe_makeKG T.k_Web G6 hr rfl T.g_Web (pa_cons (pv 3) (pa_cons (pv 5) pa_nil)) (pk_cons (pv 4) pk_nil)) (pa_cons (pv 6) pa_nil))))
      (pss_cons (ps_set (i := 10) nd rfl (Or.inl rfl) (pe_ix ix_list (pe_lst
          (pa_cons (pe_lst (pa_cons pe_int (pa_cons pe_int (pa_cons pe_int (pa_cons pe_int pa_nil)))))
          (pa_cons (pe_lst (pa_cons pe_int (pa_cons pe_int (pa_cons pe_int pa_nil))))
          (pa_cons (pe_lst (pa_cons pe_int (pa_cons pe_int (pa_cons pe_int (pa_cons pe_int pa_nil)))))
          (pa_cons (pe_lst (pa_cons pe_int (pa_cons pe_int pa_nil)))
          (pa_cons (pe_lst (pa_cons pe_int (pa_cons pe_int pa_nil)))
          (pa_cons (pe_lst (pa_cons pe_int pa_nil)) pa_nil))))))) (pe_callG G2 hr rfl T.g_law_take (pa_cons (pv 2) (pa_cons pe_int pa_nil))) (fun _ _ => rfl)))
      (pss_cons (ps_if (pt_cmpR op_gt (pv 4) pe_int (nomark _)) (pss_one (ps_setLc (i := 10) (own := [("_law_one", 14)]) (g := gName 14) (tt := tTest (tOp rEq (tOp (rI (fun _ j => 0 < j) fun i j => V.int (i % j)) (tVar 4) (tVar 14)) (tC (.int 0)))) rfl nd rfl rfl (sw_true rfl rfl rfl (by decide +kernel)) (pi_list (pv 10)) (blkOk_by (N := n_law) (sc := defScope s_law) (by decide +kernel))
          (fun _ _ _ _ _ => pg_name (i := 14) nd rfl (Or.inl rfl)) (fun _ _ _ _ _ => pts_one (pt_cmpR op_eq (pe_op op_mod (pv 4) (pv 14)) pe_int (nomark _))) (fun _ _ _ _ _ => pv 14))) pss_nil)
      (pss_one pc)))))))))))
    (pss_one (ps_ret pe_bl)), ?_⟩
  refine ⟨_, rfl, sa, _, rfl, .inl hS, _, _, rfl, _, _, rfl, _, rfl, ?_, ?_, for_it walk_rangeN (fun i σ H' => ∃ (y1 y2 y3 y4 y5 y6 y7 y8 y9 y10 y11 y12 y13 : Option V), σ = [some (.ref sa), y1, y2, y3, y4, y5, y6, y7, y8, y9, y10, y11, y12, y13, none] ∧ Same H H') ⟨_, _, _, _, _, _, _, _, _, _, _, _, _, rfl, Same.rfl'⟩ (fun _ _ _ _ _ => trivial) ?_ ?_⟩
  · split <;> split <;> omega
  · split <;> split <;> omega
  · rintro i x σ Hs H0 hi ⟨y1, y2, y3, y4, y5, y6, y7, y8, y9, y10, y11, y12, y13, rfl, sm⟩ ⟨rfl, rfl⟩
    have i4 : i < 4 := by
      rw [List.length_map] at hi
      split at hi <;> (try split at hi) <;> omega
    have hS0 := SqL.same' hS sm
    -- the pool
    refine ⟨_, rfl, _, rfl, rfl, sa, ns, i, rfl, hS0, i4, fun pl H1 s1 npl hp1 => ?_⟩
    have ex1 : ∃ o, H1 pl = some o := let ⟨a, b, e, _⟩ := hp1; ⟨_, e⟩
    have nepl : ∀ {b : Addr} {o : HO} {H' : Hp}, PoolAt H' pl → H' b = none → b ≠ pl := fun hp e z => by
      obtain ⟨a, b, q, _⟩ := hp
      rw [z, q] at e
      cases e
    -- nodes, dial
    refine ⟨_, rfl, rfl, pl, 10, rfl, by decide, by decide, hp1, fun r H2 r0 r1 sx2 hp2 => ⟨_, _, rfl, rfl, ?_⟩⟩
    obtain ⟨c, rfl⟩ : ∃ c : Nat, r = (c : Int) := ⟨r.toNat, by omega⟩
    refine ⟨by show 3 ≤ sizeLine; decide, fun l hl => ?_⟩
    have s3 := Same.new (o := .lst [.int 0, .int 12, .int 60]) hl
    have nl : l ≠ pl := nepl (o := .lst []) hp2 hl
    refine ⟨_, rfl, rfl, pl, 3, rfl, by decide, by decide, hp2.same s3, fun q H4 q0 q1 sx4 hp4 => ?_⟩
    have hl4 := sx4.1 _ _ nl (show upd H2 l (.lst [.int 0, .int 12, .int 60]) l = some (.lst [.int 0, .int 12, .int 60]) from upd_same)
    obtain ⟨m, hm, hmc⟩ : ∃ m : Int, atI [V.int 0, V.int 12, V.int 60] q = some (.int m) ∧ (m = 0 ∨ m = 12 ∨ m = 60) := by
      have h3 : q = 0 ∨ q = 1 ∨ q = 2 := by omega
      rcases h3 with rfl | rfl | rfl
      · exact ⟨0, rfl, .inl rfl⟩
      · exact ⟨12, rfl, .inr (.inl rfl)⟩
      · exact ⟨60, rfl, .inr (.inr rfl)⟩
    have m0 : 0 ≤ m := by omega
    have m60 : m ≤ 60 := by omega
    have sx14 : Sx pl H1 H4 := (sx2.same s3).trans sx4
    refine ⟨l, _, _, .int m, rfl, rfl, SqL.of hl4, hm, by show 2 ≤ sizeLine; decide, fun t ht => ?_⟩
    have s5 := Same.new (o := .tup [.int (1 + (c : Int)), .int m]) ht
    have hp5 := hp4.same s5
    have sx15 := sx14.same s5
    refine ⟨t, _, rfl, SqT.of upd_same, rfl, _, _, rfl, _, _, rfl, rfl, ?_⟩
    have s5' : Sx pl H1 (upd H4 t (.tup [.int (1 + (c : Int)), .int m])) := sx15
    clear sx15 s5
    -- links
    refine ⟨_, rfl, _, rfl, rfl, also no pl, pl, 1 + c, rfl, by omega, by omega, hp5, .inr rfl, mok_no.also (Classical.choose_spec s5'.2), fun lk H6 es sx6 hp6 hin el dE => ?_⟩
    have sx16 := s5'.trans sx6
    obtain ⟨ea, xs, rfl, hme, hea, hxl, hall, _⟩ := dE.items edgeD es
    have nea : ea ≠ pl := fun z => hme (.inr z)
    -- held, levels, goal
    refine ⟨_, rfl, _, rfl, _, rfl, ea, xs, rfl, .inl (SqL.of hea), rfl, pl, m, es.length, by rw [hxl]; rfl, m0, m60, by omega, hp6, fun hd H7 gs sx7 hp7 nhd hhd gl rg => ?_⟩
    have dE7 := dE.sx sx7 (.inr rfl)
    have nhp : hd ≠ pl := nepl (o := .lst []) hp6 nhd
    refine ⟨_, rfl, _, rfl, _, rfl, rfl, pl, m, 1 + c, rfl, m0, m60, by omega, hp7, fun lv H8 ps sx8 hp8 nlv hlv pll rp => ?_⟩
    have nlp : lv ≠ pl := nepl (o := .lst []) hp7 nlv
    have dE8 := dE7.sx sx8 (.inr rfl)
    have hhd8 := sx8.1 _ _ nhp hhd
    have sx18 := (sx16.trans sx7).trans sx8
    refine ⟨_, rfl, _, rfl, _, rfl, _, rfl, rfl, also no pl, _, 1 + c, es, m, hd, lv, gs, ps, rfl, dE8, hin, by omega, hhd8, gl, hlv, pll, fun go H9 s9 ngo hgo => ?_⟩
    have dE9 := dE8.same s9
    have hhd9 := s9 _ _ hhd8
    have hlv9 := s9 _ _ hlv
    have hp9 := hp8.same s9
    have sx19 := sx18.same s9
    have SH9 : Same H0 H9 := fun b o e => sx19.1 b o (fun z => by rw [z, npl] at e; cases e) (s1 _ _ e)
    -- the board
    refine ⟨_, rfl, _, rfl, _, rfl, rfl, rfl, fun y dy hy hdy ne => ?_⟩
    have s10 : Same H9 (upd (upd H9 dy (.own y)) y (.ins (ga K "Web") dy [])) := Same.new' (Same.new hdy) (by rw [upd_ne ne.symm]; exact hy)
    have O : WebOk (1 + c) es m := ⟨by omega, by omega, hin, by omega, m0, m60, by omega⟩
    obtain ⟨o9, eo9⟩ : ∃ o, H9 pl = some o := let ⟨a, b, e, _⟩ := hp9; ⟨_, e⟩
    have mo9 : MOk (also no pl) H9 := mok_no.also eo9
    refine ⟨rfl, also (also no pl) y, y, dy, 1 + c, m, _, es, rfl, upd_same, .inr rfl, (mo9.same s10).also upd_same, (dE9.also hy).same s10, O, fun H11 ve vf vl sy SW => ⟨rfl, ?_⟩⟩
    have s11 : Same H9 H11 := fun b o e => sy.1 b o (fun z => by rw [z, hy] at e; cases e) (s10 _ _ e)
    refine ⟨_, rfl, fun x dx hx hdx ne2 => ?_⟩
    have s12 : Same H11 (upd (upd H11 dx (.own x)) x (.ins (ga K "Board") dx [])) := Same.new' (Same.new hdx) (by rw [upd_ne ne2.symm]; exact hx)
    have SWn : WebAt K no H11 y (1 + c) es m dy ve vf vl := SW.less fun b z => z.elim
    refine ⟨rfl, x, dx, y, 1 + c, es, m, dy, ve, vf, vl, hd, _, gs, rfl, upd_same, (SWn.also hx).same s12, O, s12 _ _ (s11 _ _ hhd9), rg, gl, .inr T.e_Board_init, fun H13 g' f' lg pst sbx hx13 hg13 hf13 hlg13 hps13 ng nf nlg nps n1 n2 n3 n4 n5 => ⟨rfl, ?_⟩⟩
    have s13 : Same H11 H13 := fun b o e => sbx.1 b o (fun z => by rw [z, hx] at e; cases e) (s12 _ _ e)
    have s913 : Same H9 H13 := Same.trans' s11 s13
    have hp13 := hp9.same s913
    have nlg11 := Same.back s12 nlg
    have nps11 := Same.back s12 nps
    -- the chain
    refine ⟨by decide, fun c0 h0 => ?_⟩
    have t0 := Same.new (o := .lst [.int 60, .int 12, .int 4, .int 2]) h0
    have k0 : upd H13 c0 (.lst [.int 60, .int 12, .int 4, .int 2]) c0 = some (.lst [.int 60, .int 12, .int 4, .int 2]) := upd_same
    have hpp0 := hp13.same t0
    have cp0 : c0 ≠ pl := nepl (o := .lst []) hp13 h0
    have f0 : H13 c0 = none := Same.back (Same.rfl' (H := H13)) h0
    have s130 := t0
    generalize upd H13 c0 (.lst [.int 60, .int 12, .int 4, .int 2]) = Ha at t0 k0 hpp0 s130 ⊢
    refine ⟨by decide, fun c1 h1 => ?_⟩
    have t1 := Same.new (o := .lst [.int 12, .int 6, .int 3]) h1
    have k1 : upd Ha c1 (.lst [.int 12, .int 6, .int 3]) c1 = some (.lst [.int 12, .int 6, .int 3]) := upd_same
    have hpp1 := hpp0.same t1
    have cp1 : c1 ≠ pl := nepl (o := .lst []) hpp0 h1
    have f1 : H13 c1 = none := Same.back s130 h1
    have s131 := Same.trans' s130 t1
    generalize upd Ha c1 (.lst [.int 12, .int 6, .int 3]) = Hb at t1 k1 hpp1 s131 ⊢
    have k0 := t1 _ _ k0
    refine ⟨by decide, fun c2 h2 => ?_⟩
    have t2 := Same.new (o := .lst [.int 60, .int 30, .int 10, .int 5]) h2
    have k2 : upd Hb c2 (.lst [.int 60, .int 30, .int 10, .int 5]) c2 = some (.lst [.int 60, .int 30, .int 10, .int 5]) := upd_same
    have hpp2 := hpp1.same t2
    have cp2 : c2 ≠ pl := nepl (o := .lst []) hpp1 h2
    have f2 : H13 c2 = none := Same.back s131 h2
    have s132 := Same.trans' s131 t2
    generalize upd Hb c2 (.lst [.int 60, .int 30, .int 10, .int 5]) = Hc at t2 k2 hpp2 s132 ⊢
    have k0 := t2 _ _ k0
    have k1 := t2 _ _ k1
    refine ⟨by decide, fun c3 h3 => ?_⟩
    have t3 := Same.new (o := .lst [.int 4, .int 2]) h3
    have k3 : upd Hc c3 (.lst [.int 4, .int 2]) c3 = some (.lst [.int 4, .int 2]) := upd_same
    have hpp3 := hpp2.same t3
    have cp3 : c3 ≠ pl := nepl (o := .lst []) hpp2 h3
    have f3 : H13 c3 = none := Same.back s132 h3
    have s133 := Same.trans' s132 t3
    generalize upd Hc c3 (.lst [.int 4, .int 2]) = Hd at t3 k3 hpp3 s133 ⊢
    have k0 := t3 _ _ k0
    have k1 := t3 _ _ k1
    have k2 := t3 _ _ k2
    refine ⟨by decide, fun c4 h4 => ?_⟩
    have t4 := Same.new (o := .lst [.int 6, .int 2]) h4
    have k4 : upd Hd c4 (.lst [.int 6, .int 2]) c4 = some (.lst [.int 6, .int 2]) := upd_same
    have hpp4 := hpp3.same t4
    have cp4 : c4 ≠ pl := nepl (o := .lst []) hpp3 h4
    have f4 : H13 c4 = none := Same.back s133 h4
    have s134 := Same.trans' s133 t4
    generalize upd Hd c4 (.lst [.int 6, .int 2]) = He at t4 k4 hpp4 s134 ⊢
    have k0 := t4 _ _ k0
    have k1 := t4 _ _ k1
    have k2 := t4 _ _ k2
    have k3 := t4 _ _ k3
    refine ⟨by decide, fun c5 h5 => ?_⟩
    have t5 := Same.new (o := .lst [.int 3]) h5
    have k5 : upd He c5 (.lst [.int 3]) c5 = some (.lst [.int 3]) := upd_same
    have hpp5 := hpp4.same t5
    have cp5 : c5 ≠ pl := nepl (o := .lst []) hpp4 h5
    have f5 : H13 c5 = none := Same.back s134 h5
    have s135 := Same.trans' s134 t5
    generalize upd He c5 (.lst [.int 3]) = Hf at t5 k5 hpp5 s135 ⊢
    have k0 := t5 _ _ k0
    have k1 := t5 _ _ k1
    have k2 := t5 _ _ k2
    have k3 := t5 _ _ k3
    have k4 := t5 _ _ k4
    refine ⟨by show 6 ≤ sizeLine; decide, fun cc hcc => ?_⟩
    have t6 := Same.new (o := .lst [.ref c0, .ref c1, .ref c2, .ref c3, .ref c4, .ref c5]) hcc
    have kcc : upd Hf cc (.lst [.ref c0, .ref c1, .ref c2, .ref c3, .ref c4, .ref c5]) cc = some (.lst [.ref c0, .ref c1, .ref c2, .ref c3, .ref c4, .ref c5]) := upd_same
    have hp14 := hpp5.same t6
    have ccp : cc ≠ pl := nepl (o := .lst []) hpp5 hcc
    have s1314 := Same.trans' s135 t6
    generalize upd Hf cc (.lst [.ref c0, .ref c1, .ref c2, .ref c3, .ref c4, .ref c5]) = H14 at t6 kcc hp14 s1314 ⊢
    refine ⟨_, rfl, rfl, pl, 6, rfl, by decide, by decide, hp14, fun q H15 q0 q1 sx15 hp15 => ?_⟩
    have kcc15 := sx15.1 _ _ ccp kcc
    have T15 : ∀ b o, b ≠ pl → H13 b = some o → H15 b = some o := fun b o nb e => sx15.1 b o nb (s1314 _ _ e)
    obtain ⟨ch, Lq, hat, hch, fch, hmem⟩ : ∃ (ch : Addr) (Lq : List Int), atI [V.ref c0, V.ref c1, V.ref c2, V.ref c3, V.ref c4, V.ref c5] q = some (.ref ch) ∧ H15 ch = some (.lst (Lq.map V.int)) ∧ H13 ch = none ∧ Lq ∈ chains := by
      have h6 : q = 0 ∨ q = 1 ∨ q = 2 ∨ q = 3 ∨ q = 4 ∨ q = 5 := by omega
      rcases h6 with rfl | rfl | rfl | rfl | rfl | rfl
      · exact ⟨c0, [60, 12, 4, 2], rfl, sx15.1 _ _ cp0 (t6 _ _ k0), f0, by decide⟩
      · exact ⟨c1, [12, 6, 3], rfl, sx15.1 _ _ cp1 (t6 _ _ k1), f1, by decide⟩
      · exact ⟨c2, [60, 30, 10, 5], rfl, sx15.1 _ _ cp2 (t6 _ _ k2), f2, by decide⟩
      · exact ⟨c3, [4, 2], rfl, sx15.1 _ _ cp3 (t6 _ _ k3), f3, by decide⟩
      · exact ⟨c4, [6, 2], rfl, sx15.1 _ _ cp4 (t6 _ _ k4), f4, by decide⟩
      · exact ⟨c5, [3], rfl, sx15.1 _ _ cp5 (t6 _ _ k5), f5, by decide⟩
    refine ⟨cc, _, _, .ref ch, rfl, rfl, SqL.of kcc15, hat, ?_⟩
    obtain ⟨q00, q12, q60, qlen, qall⟩ := chains_ok Lq hmem
    -- where all stands
    have yp : y ≠ pl := nepl (o := .lst []) hp9 hy
    have hp11 := hp9.same s11
    have xp : x ≠ pl := nepl (o := .lst []) hp11 hx
    have lgp : lg ≠ pl := nepl (o := .lst []) hp11 nlg11
    have psp : pst ≠ pl := nepl (o := .lst []) hp11 nps11
    have gp : g' ≠ pl := nepl (o := .lst []) hp11 (Same.back s12 ng)
    have fp : f' ≠ pl := nepl (o := .lst []) hp11 (Same.back s12 nf)
    have gop : go ≠ pl := nepl (o := .lst []) hp8 ngo
    have nBn : ∀ {b : Addr}, H13 b = none → ¬ Bd x lg pst b := fun e z => by
      rcases z with rfl | rfl | rfl
      · rw [hx13] at e; cases e
      · rw [hlg13] at e; cases e
      · rw [hps13] at e; cases e
    have nBo : ∀ {b : Addr} {o : HO}, H9 b = some o → ¬ Bd x lg pst b := fun e z => by
      have e := s11 _ _ e
      rcases z with rfl | rfl | rfl
      · rw [hx] at e; cases e
      · rw [nlg11] at e; cases e
      · rw [nps11] at e; cases e
    have W15 : WebAt K (Bd x lg pst) H15 y (1 + c) es m dy ve vf vl := by
      have a1 : WebAt K (also no pl) H11 y (1 + c) es m dy ve vf vl := SW.less fun b z => .inl z
      have a2 := ((((a1.also hx).also nlg11).also nps11).same s13).same s1314
      refine (a2.sx sx15 (.inl (.inl (.inl (.inr rfl)))) yp).less fun b z => ?_
      rcases z with rfl | rfl | rfl
      · exact .inl (.inl (.inr rfl))
      · exact .inl (.inr rfl)
      · exact .inr rfl
    have S015 : Same H0 H15 := fun b o e => T15 b o (fun z => by rw [z, npl] at e; cases e) (s913 _ _ (SH9 _ _ e))
    have brd : ∀ (H' : Hp) (ch' : Addr) (L : List Int), Same H15 H' → H' ch' = some (.lst (L.map V.int)) → ¬ Bd x lg pst ch' → ChainOk m L → Brd K H0 H' x ch' L (1 + c) es 0 dx y g' f' lg pst m dy ve vf vl gs ps [] [] lv go := by
      intro H' ch' L s16 hc nc co
      refine ⟨Same.trans' S015 s16, Same.back SH9 (Same.back s11 hx), Same.back SH9 (Same.back s11 nlg11), Same.back SH9 (Same.back s11 nps11), s16 _ _ (T15 _ _ xp hx13), W15.same s16, O, s16 _ _ (T15 _ _ gp hg13), ?_, gl, rg, s16 _ _ (T15 _ _ fp hf13), ?_, s16 _ _ (T15 _ _ lgp hlg13),
        (fun v hv => absurd hv List.not_mem_nil), s16 _ _ (T15 _ _ psp hps13), Nat.le_refl _, Nat.le_refl _, n5, hc, nc, s16 _ _ (T15 _ _ nlp (s913 _ _ hlv9)), nBo hlv9, pll, rp, s16 _ _ (T15 _ _ gop (s913 _ _ hgo)), nBo hgo, co⟩
      · intro z
        rcases z with rfl | rfl | rfl
        · rw [hx13] at hg13; cases hg13
        · exact n1 rfl
        · exact n2 rfl
      · intro z
        rcases z with rfl | rfl | rfl
        · rw [hx13] at hf13; cases hf13
        · exact n3 rfl
        · exact n4 rfl
    refine ⟨_, rfl, _, _, rfl, rfl, _, rfl, ite2 (fun e => ?_) (fun e => ?_)⟩
    · have mp : 0 < m := of_decide_eq_true e
      refine ⟨_, rfl, ch, rfl, ⟨_, SqL.of hch⟩, fun D hD => lc_it (walk_list (xs := Lq.map V.int)) (fun j H' => Same H15 H' ∧ H' D = some (.lst ((keepD m (Lq.take j)).map V.int))) ⟨Same.new hD, upd_same⟩ (fun j H' _ h => SqL.of (h.1 _ _ hch)) ?_ ?_⟩
      · rintro j z H16 H17 hj ⟨s16, h16⟩ ⟨rfl, hz⟩
        obtain ⟨hj', rfl⟩ := ints_get hz
        have d2 : 2 ≤ Lq.getD j 0 := of_decide_eq_true (List.all_eq_true.mp qall _ (getD_mem hj'))
        have ek : keepD m (Lq.take (j + 1)) = keepD m (Lq.take j) ++ (if m % Lq.getD j 0 = 0 then [Lq.getD j 0] else []) := by
          unfold keepD
          rw [take_next Lq j 0 hj', List.filter_append]
          congr 1
          by_cases h : m % Lq.getD j 0 = 0 <;> simp [List.filter_cons, h]
        refine ⟨rfl, _, rfl, _, rfl, _, _, rfl, rfl, by show 0 < Lq.getD j 0; omega, rfl, _, rfl, ?_⟩
        rw [ek]
        by_cases h : m % Lq.getD j 0 = 0
        · refine iteY (by show decide (V.int (m % Lq.getD j 0) = V.int 0) = true; rw [h]; exact decide_eq_true rfl) ?_
          rw [if_pos h]
          refine ⟨_, rfl, _, h16, ?_, Same.mut s16 hD, by rw [upd_same, ints_snoc]⟩
          have := List.length_filter_le (fun d => decide (m % d = 0)) (Lq.take j)
          have h2 : (keepD m (Lq.take j)).length ≤ (Lq.take j).length := this
          rw [List.length_take] at h2
          rw [List.length_map]
          show _ < 16777216
          omega
        · refine iteN (by show decide (V.int (m % Lq.getD j 0) = V.int 0) = false; exact decide_eq_false (fun z => h (by injection z))) ?_
          rw [if_neg h, List.append_nil]
          exact ⟨s16, h16⟩
      · rintro H16 ⟨s16, h16⟩
        rw [List.length_map, List.take_of_length_le (Nat.le_refl _)] at h16
        have nBD : ¬ Bd x lg pst D := fun z => by
          rcases z with rfl | rfl | rfl
          · rw [T15 _ _ xp hx13] at hD; cases hD
          · rw [T15 _ _ lgp hlg13] at hD; cases hD
          · rw [T15 _ _ psp hps13] at hD; cases hD
        have co : ChainOk m (keepD m Lq) := by
          rcases hmc with rfl | rfl | rfl
          · omega
          · exact chainOk_of _ q12
          · exact chainOk_of _ q60
        have kl : (keepD m Lq).length ≤ 10 := by
          have := List.length_filter_le (fun d => decide (m % d = 0)) Lq
          have h2 : (keepD m Lq).length ≤ Lq.length := this
          omega
        exact rc _ H0 H16 x D (keepD m Lq) (1 + c) es dx y g' f' lg pst m dy ve vf vl gs ps lv go _ _ _ _ _ _ _ _ _ _ kl (brd H16 D _ s16 h16 nBD co) (fun σ H' z1 z2 z3 z4 z5 z6 z7 z8 z9 z10 z11 z12 z13 ez sz => ⟨z1, z2, z3, z4, z5, z6, z7, z8, z9, z10, z11, z12, z13, ez, Same.trans' sm sz⟩)
    · have mz : m = 0 := by
        have : ¬ 0 < m := fun z => e (decide_eq_true z)
        omega
      exact rc _ H0 H15 x ch Lq (1 + c) es dx y g' f' lg pst m dy ve vf vl gs ps lv go _ _ _ _ _ _ _ _ _ _ (by omega) (brd H15 ch _ Same.rfl' hch (nBn fch) (by rw [mz]; exact chainOk_of _ q00)) (fun σ H' z1 z2 z3 z4 z5 z6 z7 z8 z9 z10 z11 z12 z13 ez sz => ⟨z1, z2, z3, z4, z5, z6, z7, z8, z9, z10, z11, z12, z13, ez, Same.trans' sm sz⟩)
  · rintro σ H' ⟨y1, y2, y3, y4, y5, y6, y7, y8, y9, y10, y11, y12, y13, rfl, sm⟩
    exact hQ H'
end
end Tt
set_option Elab.async false
set_option linter.all false
set_option maxRecDepth 100000
set_option maxHeartbeats 0
/-! the end -/
namespace Tt
open PySem PySem.Spec PyProof.Rows L2 He
theorem law_facts {P : Program} {w : World} {K : PySem.W.Frag} {h : Heap} {mg : Str → Option Value} {f : Addr} (X : K.In h) (G : h.Ns mainGlobals mg) (hfa : mg ("law" : Str) = some (.ref f)) (c : SaysD fa fn K) (e : more K = true) :
    ∃ fd : FuncData, (∀ (s : Shared) (v : Value), BindsTo s fd ⟨[v], []⟩ [("_law_script", v)]) ∧ ∀ base : Heap, K.In base → base.Ns mainGlobals mg → FnOk P w K mg base CX0 11 f fd ["_law_script"] (spLaw K) := by
  have T : Tx K mg := tx_of X G c e
  obtain ⟨fd, F⟩ := T.f_law
  have ef := hfa.symm.trans T.g_law
  cases ef
  have b := FunD.bindsA (ps := ["_law_script"]) F fun _ _ _ _ _ _ us hl => match us, hl with | [_], _ => rfl
  exact ⟨fd, fun s v => b s [v] rfl, fun base _ _ => ok_law T F⟩
end Tt
open PySem PySem.W PySem.Calls PyProof.Rows
theorem PySem.Challenge.cw_turnedties_k67_whole_reduced_moduli_keep_holds : PySem.Challenge.rw_turnedties_k67_whole_reduced_moduli_keep.Holds := by
  w_on; o_law
  refine HandSHeadRun.head_any (r := OpenLaw.row PySem.Challenge.rw_turnedties_k67_whole_reduced_moduli_keep) (q := view (OpenLaw.row PySem.Challenge.rw_turnedties_k67_whole_reduced_moduli_keep).prog [76]) (H := Tt.hk) (ob := Tt.ob) (M := 9000) (loose := Tt.loose)
    (d := HandSHeadRun.topDef (OpenLaw.row PySem.Challenge.rw_turnedties_k67_whole_reduced_moduli_keep).prog 76) (kwd := []) Tt.ob_eq
    (by kernel_rfl) (fun s => by kernel_rfl) Tt.run (by kernel_rfl) (by kernel_rfl) (by kernel_rfl) (by rfl) (by first | assumption | decide +kernel) (by decide +kernel) ⟨rfl, rfl, rfl, rfl, rfl, by decide +kernel⟩ ?hw ?hc
  case hw => w_witness2
  case hc =>
    refine L2.walk_ofE (l := PySem.Challenge.rw_turnedties_k67_whole_reduced_moduli_keep) (n := 63) (k := 11) (x := "_law_script") (CX := L2.CX0) rfl (by decide) (by kernel_rfl) ⟨rfl, by decide, by decide⟩ ?F (fun _ _ _ _ z => z)
    intro w mg fa h Y G hmg0
    obtain ⟨K, KX, c, em⟩ := Y
    have hmg : mg ("law" : PySem.Str) = some (.ref fa) := by
      have e : (HandSHeadRun.topDef (OpenLaw.row PySem.Challenge.rw_turnedties_k67_whole_reduced_moduli_keep).prog 76).name = ("law" : PySem.Str) := by kernel_rfl
      rw [← e]
      exact hmg0
    obtain ⟨fd, hb, hF⟩ := Tt.law_facts (P := (PySem.Challenge.rw_turnedties_k67_whole_reduced_moduli_keep).prog) (w := w) KX G hmg c em
    exact ⟨K, fd, Tt.spLaw K, KX, hb, fun H a ns hl _ hS => ⟨a, ns, rfl, hS, fun _ => rfl⟩, hF⟩
