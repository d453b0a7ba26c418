import PyProof.Rows.All
import Wide.All
import OpenK.AllK
import Wide.FinOn
import HandS.ForMost
import HandS.Defaults
import HandS.MakeKw
import HandS.MakeKwOnly
import HandS.IsInst
import HandS.Zip
import HandS.Walk
import HandS.Strs
import HandS.Set
import HandS.SetFor
import HandS.Conv
import HandS.DictComp
import HandS.Deep
import HandS.Wide
import HandS.Flow
import HandS.Sort
import HandS.SortInts
import HandS.TupSets
import HandS.TupAny
import HandS.Codes
import HandS.More
import HandS.Head0
import HandS.Head1
import HandS.Head2
import HandS.HeadEnd
import HandS.HeadHook1
import HandS.HeadHook2
import KE.GoesSet
import PySem.Challenge.RW_turnedties_k55_whole_one_potential_for_a
import HandS.SetBool
import KE.GoesEnumKw
set_option Elab.async false
set_option linter.all false
set_option maxRecDepth 100000
section
set_option maxHeartbeats 4000000
namespace Tt
open PySem PySem.Spec PyProof.Rows L2
/-! ### the text by places -/
def top (i : Nat) : Stmt := PySem.Challenge.pw_turnedties_k55_whole_one_potential_for_a.main.body.getD i (.Pass ⟨0, 0, 0, 0⟩)
abbrev N_reduced_number : List Str := ["number", "modulus"]
abbrev N_reduced_number_ps : List Str := ["number", "modulus"]
theorem sc_reduced_number : FnScope N_reduced_number N_reduced_number_ps (defScope (top 16)) := ⟨rfl, rfl, rfl, by decide +kernel, rfl, by decide +kernel, by decide +kernel⟩
abbrev N_forest_of : List Str := ["size", "pairs", "groups", "found", "index", "tail", "head", "group"]
abbrev N_forest_of_ps : List Str := ["size", "pairs"]
theorem sc_forest_of : FnScope N_forest_of N_forest_of_ps (defScope (top 17)) := ⟨rfl, rfl, rfl, by decide +kernel, rfl, by decide +kernel, by decide +kernel⟩
abbrev N_links_of : List Str := ["size", "pairs", "forest", "found", "node", "index", "tail", "head"]
abbrev N_links_of_ps : List Str := ["size", "pairs", "forest"]
theorem sc_links_of : FnScope N_links_of N_links_of_ps (defScope (top 18)) := ⟨rfl, rfl, rfl, by decide +kernel, rfl, by decide +kernel, by decide +kernel⟩
abbrev N_walk_paths : List Str := ["links", "start", "paths", "level", "later", "node", "index", "way", "other"]
abbrev N_walk_paths_ps : List Str := ["links", "start"]
theorem sc_walk_paths : FnScope N_walk_paths N_walk_paths_ps (defScope (top 19)) := ⟨rfl, rfl, rfl, by decide +kernel, rfl, by decide +kernel, by decide +kernel⟩
abbrev N_components_of : List Str := ["links", "found", "seen", "node", "component", "other"]
abbrev N_components_of_ps : List Str := ["links"]
theorem sc_components_of : FnScope N_components_of N_components_of_ps (defScope (top 20)) := ⟨rfl, rfl, rfl, by decide +kernel, rfl, by decide +kernel, by decide +kernel⟩
abbrev N_System_init : List Str := ["self", "size", "modulus", "rows", "pairs", "tail", "head", "difference"]
abbrev N_System_init_ps : List Str := ["self", "size", "modulus", "rows"]
theorem sc_System_init : FnScope N_System_init N_System_init_ps (defScope (inClass (top 21) 0)) := ⟨rfl, rfl, rfl, by decide +kernel, rfl, by decide +kernel, by decide +kernel⟩
abbrev N_System_path : List Str := ["self", "start", "finish"]
abbrev N_System_path_ps : List Str := ["self", "start", "finish"]
theorem sc_System_path : FnScope N_System_path N_System_path_ps (defScope (inClass (top 21) 1)) := ⟨rfl, rfl, rfl, by decide +kernel, rfl, by decide +kernel, by decide +kernel⟩
abbrev N_System_levels : List Str := ["self", "found", "node", "group", "path", "total", "index", "way"]
abbrev N_System_levels_ps : List Str := ["self"]
theorem sc_System_levels : FnScope N_System_levels N_System_levels_ps (defScope (inClass (top 21) 2)) := ⟨rfl, rfl, rfl, by decide +kernel, rfl, by decide +kernel, by decide +kernel⟩
abbrev N_System_bad_cycle : List Str := ["self", "found", "index", "tail", "head", "difference"]
abbrev N_System_bad_cycle_ps : List Str := ["self"]
theorem sc_System_bad_cycle : FnScope N_System_bad_cycle N_System_bad_cycle_ps (defScope (inClass (top 21) 3)) := ⟨rfl, rfl, rfl, by decide +kernel, rfl, by decide +kernel, by decide +kernel⟩
abbrev N_System_solved : List Str := ["self", "fixed", "walk", "found", "group", "held", "node", "constant"]
abbrev N_System_solved_ps : List Str := ["self", "fixed"]
theorem sc_System_solved : FnScope N_System_solved N_System_solved_ps (defScope (inClass (top 21) 4)) := ⟨rfl, rfl, rfl, by decide +kernel, rfl, by decide +kernel, by decide +kernel⟩
abbrev N_is_integer : List Str := ["thing"]
abbrev N_is_integer_ps : List Str := ["thing"]
theorem sc_is_integer : FnScope N_is_integer N_is_integer_ps (defScope (top 26)) := ⟨rfl, rfl, rfl, by decide +kernel, rfl, by decide +kernel, by decide +kernel⟩
abbrev N_is_within : List Str := ["thing", "least", "most"]
abbrev N_is_within_ps : List Str := ["thing", "least", "most"]
theorem sc_is_within : FnScope N_is_within N_is_within_ps (defScope (top 27)) := ⟨rfl, rfl, rfl, by decide +kernel, rfl, by decide +kernel, by decide +kernel⟩
abbrev N_is_edge : List Str := ["thing", "size"]
abbrev N_is_edge_ps : List Str := ["thing", "size"]
theorem sc_is_edge : FnScope N_is_edge N_is_edge_ps (defScope (top 28)) := ⟨rfl, rfl, rfl, by decide +kernel, rfl, by decide +kernel, by decide +kernel⟩
abbrev N_is_modulus : List Str := ["thing"]
abbrev N_is_modulus_ps : List Str := ["thing"]
theorem sc_is_modulus : FnScope N_is_modulus N_is_modulus_ps (defScope (top 29)) := ⟨rfl, rfl, rfl, by decide +kernel, rfl, by decide +kernel, by decide +kernel⟩
abbrev N_check_edges : List Str := ["size", "edges", "edge"]
abbrev N_check_edges_ps : List Str := ["size", "edges"]
theorem sc_check_edges : FnScope N_check_edges N_check_edges_ps (defScope (top 30)) := ⟨rfl, rfl, rfl, by decide +kernel, rfl, by decide +kernel, by decide +kernel⟩
abbrev N_Web_init : List Str := ["self", "size", "edges", "modulus"]
abbrev N_Web_init_ps : List Str := ["self", "size", "edges", "modulus"]
theorem sc_Web_init : FnScope N_Web_init N_Web_init_ps (defScope (inClass (top 31) 0)) := ⟨rfl, rfl, rfl, by decide +kernel, rfl, by decide +kernel, by decide +kernel⟩
abbrev N_Web_size : List Str := ["self"]
abbrev N_Web_size_ps : List Str := ["self"]
theorem sc_Web_size : FnScope N_Web_size N_Web_size_ps (defScope (inClass (top 31) 1)) := ⟨rfl, rfl, rfl, by decide +kernel, rfl, by decide +kernel, by decide +kernel⟩
abbrev N_Web_modulus : List Str := ["self"]
abbrev N_Web_modulus_ps : List Str := ["self"]
theorem sc_Web_modulus : FnScope N_Web_modulus N_Web_modulus_ps (defScope (inClass (top 31) 2)) := ⟨rfl, rfl, rfl, by decide +kernel, rfl, by decide +kernel, by decide +kernel⟩
abbrev N_Web_edges : List Str := ["self"]
abbrev N_Web_edges_ps : List Str := ["self"]
theorem sc_Web_edges : FnScope N_Web_edges N_Web_edges_ps (defScope (inClass (top 31) 3)) := ⟨rfl, rfl, rfl, by decide +kernel, rfl, by decide +kernel, by decide +kernel⟩
abbrev N_Web_len : List Str := ["self"]
abbrev N_Web_len_ps : List Str := ["self"]
theorem sc_Web_len : FnScope N_Web_len N_Web_len_ps (defScope (inClass (top 31) 9)) := ⟨rfl, rfl, rfl, by decide +kernel, rfl, by decide +kernel, by decide +kernel⟩
abbrev N_check_node : List Str := ["web", "node"]
abbrev N_check_node_ps : List Str := ["web", "node"]
theorem sc_check_node : FnScope N_check_node N_check_node_ps (defScope (top 32)) := ⟨rfl, rfl, rfl, by decide +kernel, rfl, by decide +kernel, by decide +kernel⟩
abbrev N_residue : List Str := ["web", "number"]
abbrev N_residue_ps : List Str := ["web", "number"]
theorem sc_residue : FnScope N_residue N_residue_ps (defScope (top 34)) := ⟨rfl, rfl, rfl, by decide +kernel, rfl, by decide +kernel, by decide +kernel⟩
abbrev N_is_residue : List Str := ["web", "thing"]
abbrev N_is_residue_ps : List Str := ["web", "thing"]
theorem sc_is_residue : FnScope N_is_residue N_is_residue_ps (defScope (top 35)) := ⟨rfl, rfl, rfl, by decide +kernel, rfl, by decide +kernel, by decide +kernel⟩
abbrev N_are_residues : List Str := ["web", "thing", "count", "one"]
abbrev N_are_residues_ps : List Str := ["web", "thing", "count"]
theorem sc_are_residues : FnScope N_are_residues N_are_residues_ps (defScope (top 36)) := ⟨rfl, rfl, rfl, by decide +kernel, rfl, by decide +kernel, by decide +kernel⟩
abbrev N_is_gains : List Str := ["web", "thing"]
abbrev N_is_gains_ps : List Str := ["web", "thing"]
theorem sc_is_gains : FnScope N_is_gains N_is_gains_ps (defScope (top 37)) := ⟨rfl, rfl, rfl, by decide +kernel, rfl, by decide +kernel, by decide +kernel⟩
abbrev N_is_potential : List Str := ["web", "thing"]
abbrev N_is_potential_ps : List Str := ["web", "thing"]
theorem sc_is_potential : FnScope N_is_potential N_is_potential_ps (defScope (top 38)) := ⟨rfl, rfl, rfl, by decide +kernel, rfl, by decide +kernel, by decide +kernel⟩
abbrev N_check_gains : List Str := ["web", "gains"]
abbrev N_check_gains_ps : List Str := ["web", "gains"]
theorem sc_check_gains : FnScope N_check_gains N_check_gains_ps (defScope (top 39)) := ⟨rfl, rfl, rfl, by decide +kernel, rfl, by decide +kernel, by decide +kernel⟩
abbrev N_check_potential : List Str := ["web", "potential"]
abbrev N_check_potential_ps : List Str := ["web", "potential"]
theorem sc_check_potential : FnScope N_check_potential N_check_potential_ps (defScope (top 40)) := ⟨rfl, rfl, rfl, by decide +kernel, rfl, by decide +kernel, by decide +kernel⟩
abbrev N_check_fixed : List Str := ["web", "fixed", "good", "node"]
abbrev N_check_fixed_ps : List Str := ["web", "fixed"]
theorem sc_check_fixed : FnScope N_check_fixed N_check_fixed_ps (defScope (top 41)) := ⟨rfl, rfl, rfl, by decide +kernel, rfl, by decide +kernel, by decide +kernel⟩
abbrev N_switched : List Str := ["web", "gains", "potential", "found", "gain", "tail", "head"]
abbrev N_switched_ps : List Str := ["web", "gains", "potential"]
theorem sc_switched : FnScope N_switched N_switched_ps (defScope (top 43)) := ⟨rfl, rfl, rfl, by decide +kernel, rfl, by decide +kernel, by decide +kernel⟩
abbrev N_switch : List Str := ["web", "gains", "node", "amount", "potential"]
abbrev N_switch_ps : List Str := ["web", "gains", "node", "amount"]
theorem sc_switch : FnScope N_switch N_switch_ps (defScope (top 44)) := ⟨rfl, rfl, rfl, by decide +kernel, rfl, by decide +kernel, by decide +kernel⟩
abbrev N_is_switch : List Str := ["web", "thing"]
abbrev N_is_switch_ps : List Str := ["web", "thing"]
theorem sc_is_switch : FnScope N_is_switch N_is_switch_ps (defScope (top 45)) := ⟨rfl, rfl, rfl, by decide +kernel, rfl, by decide +kernel, by decide +kernel⟩
abbrev N_potential_of : List Str := ["web", "switches", "found", "entry", "node", "amount"]
abbrev N_potential_of_ps : List Str := ["web", "switches"]
theorem sc_potential_of : FnScope N_potential_of N_potential_of_ps (defScope (top 46)) := ⟨rfl, rfl, rfl, by decide +kernel, rfl, by decide +kernel, by decide +kernel⟩
abbrev N_check_webs : List Str := ["webs", "web"]
abbrev N_check_webs_ps : List Str := ["webs"]
theorem sc_check_webs : FnScope N_check_webs N_check_webs_ps (defScope (top 49)) := ⟨rfl, rfl, rfl, by decide +kernel, rfl, by decide +kernel, by decide +kernel⟩
abbrev N_check_all_gains : List Str := ["webs", "thing", "web", "gains"]
abbrev N_check_all_gains_ps : List Str := ["webs", "thing"]
theorem sc_check_all_gains : FnScope N_check_all_gains N_check_all_gains_ps (defScope (top 50)) := ⟨rfl, rfl, rfl, by decide +kernel, rfl, by decide +kernel, by decide +kernel⟩
abbrev N_transform_all : List Str := ["webs", "befores", "afters", "fixed", "rows", "places", "number", "web", "edge", "ends", "word", "found", "index", "way"]
abbrev N_transform_all_ps : List Str := ["webs", "befores", "afters", "fixed"]
theorem sc_transform_all : FnScope N_transform_all N_transform_all_ps (defScope (top 51)) := ⟨rfl, rfl, rfl, by decide +kernel, rfl, by decide +kernel, by decide +kernel⟩
abbrev N_law_pool : List Str := ["_law_script", "_law_k", "_law_cell", "_law_whole", "_law_seed"]
abbrev N_law_pool_ps : List Str := ["_law_script", "_law_k"]
theorem sc_law_pool : FnScope N_law_pool N_law_pool_ps (defScope (top 53)) := ⟨rfl, rfl, rfl, by decide +kernel, rfl, by decide +kernel, by decide +kernel⟩
abbrev N_law_take : List Str := ["_law_pool_here", "_law_many", "_law_found"]
abbrev N_law_take_ps : List Str := ["_law_pool_here", "_law_many"]
theorem sc_law_take : FnScope N_law_take N_law_take_ps (defScope (top 54)) := ⟨rfl, rfl, rfl, by decide +kernel, rfl, by decide +kernel, by decide +kernel⟩
abbrev N_law_mod : List Str := ["_law_base_here", "_law_value"]
abbrev N_law_mod_ps : List Str := ["_law_base_here", "_law_value"]
theorem sc_law_mod : FnScope N_law_mod N_law_mod_ps (defScope (top 55)) := ⟨rfl, rfl, rfl, by decide +kernel, rfl, by decide +kernel, by decide +kernel⟩
abbrev N_law_residue : List Str := ["_law_pool_here", "_law_base_here", "_law_far"]
abbrev N_law_residue_ps : List Str := ["_law_pool_here", "_law_base_here"]
theorem sc_law_residue : FnScope N_law_residue N_law_residue_ps (defScope (top 56)) := ⟨rfl, rfl, rfl, by decide +kernel, rfl, by decide +kernel, by decide +kernel⟩
abbrev N_law_base : List Str := ["_law_pool_here"]
abbrev N_law_base_ps : List Str := ["_law_pool_here"]
theorem sc_law_base : FnScope N_law_base N_law_base_ps (defScope (top 57)) := ⟨rfl, rfl, rfl, by decide +kernel, rfl, by decide +kernel, by decide +kernel⟩
abbrev N_law_pairs : List Str := ["_law_pool_here", "_law_many", "_law_most", "_law_found", "_law_turn", "_law_tail", "_law_head"]
abbrev N_law_pairs_ps : List Str := ["_law_pool_here", "_law_many", "_law_most"]
theorem sc_law_pairs : FnScope N_law_pairs N_law_pairs_ps (defScope (top 58)) := ⟨rfl, rfl, rfl, by decide +kernel, rfl, by decide +kernel, by decide +kernel⟩
abbrev N_law_led : List Str := ["_law_pairs_here", "_law_base_here", "_law_old", "_law_levels_here", "_law_one", "_law_tail", "_law_head"]
abbrev N_law_led_ps : List Str := ["_law_pairs_here", "_law_base_here", "_law_old", "_law_levels_here"]
theorem sc_law_led : FnScope N_law_led N_law_led_ps (defScope (top 59)) := ⟨rfl, rfl, rfl, by decide +kernel, rfl, by decide +kernel, by decide +kernel⟩
abbrev N_law_goal : List Str := ["_law_pool_here", "_law_pairs_here", "_law_base_here", "_law_old", "_law_levels_here", "_law_new", "_law_spot"]
abbrev N_law_goal_ps : List Str := ["_law_pool_here", "_law_pairs_here", "_law_base_here", "_law_old", "_law_levels_here"]
theorem sc_law_goal : FnScope N_law_goal N_law_goal_ps (defScope (top 60)) := ⟨rfl, rfl, rfl, by decide +kernel, rfl, by decide +kernel, by decide +kernel⟩
abbrev N_law_groups : List Str := ["_law_many", "_law_pairs_here", "_law_marks", "_law_tail", "_law_head", "_law_least", "_law_other", "_law_mark", "_law_found", "_law_spot"]
abbrev N_law_groups_ps : List Str := ["_law_many", "_law_pairs_here"]
theorem sc_law_groups : FnScope N_law_groups N_law_groups_ps (defScope (top 61)) := ⟨rfl, rfl, rfl, by decide +kernel, rfl, by decide +kernel, by decide +kernel⟩
abbrev N_law_many_webs : List Str := ["_law_pool_here", "_law_many", "_law_most", "_law_found", "_law_turn"]
abbrev N_law_many_webs_ps : List Str := ["_law_pool_here", "_law_many", "_law_most"]
theorem sc_law_many_webs : FnScope N_law_many_webs N_law_many_webs_ps (defScope (top 63)) := ⟨rfl, rfl, rfl, by decide +kernel, rfl, by decide +kernel, by decide +kernel⟩
abbrev N_law_flat : List Str := ["_law_lists", "_law_found", "_law_some"]
abbrev N_law_flat_ps : List Str := ["_law_lists"]
theorem sc_law_flat : FnScope N_law_flat N_law_flat_ps (defScope (top 64)) := ⟨rfl, rfl, rfl, by decide +kernel, rfl, by decide +kernel, by decide +kernel⟩
abbrev N_law_joint : List Str := ["_law_pool_here", "_law_many", "_law_base_here", "_law_lists", "_law_levels_here", "_law_spot", "_law_olds", "_law_pair", "_law_pairs_here", "_law_news", "_law_old", "_law_one"]
abbrev N_law_joint_ps : List Str := ["_law_pool_here"]
theorem sc_law_joint : FnScope N_law_joint N_law_joint_ps (defScope (top 65)) := ⟨rfl, rfl, rfl, by decide +kernel, rfl, by decide +kernel, by decide +kernel⟩
abbrev N_law_is_bridge : List Str := ["_law_many", "_law_lists", "_law_one", "_law_spot", "_law_pairs_here", "_law_at", "_law_some"]
abbrev N_law_is_bridge_ps : List Str := ["_law_many", "_law_lists", "_law_one", "_law_spot"]
theorem sc_law_is_bridge : FnScope N_law_is_bridge N_law_is_bridge_ps (defScope (top 66)) := ⟨rfl, rfl, rfl, by decide +kernel, rfl, by decide +kernel, by decide +kernel⟩
abbrev N_law : List Str := ["_law_script", "_law_k", "_law_pool_here", "_law_many", "_law_base_here", "_law_lists", "_law_olds", "_law_news", "_law_levels_here", "_law_webs", "_law_pairs_here", "_law_done", "_law_turn", "_law_old", "_law_node", "_law_amount", "_law_web", "_law_new", "_law_word", "_law_found", "_law_due", "_law_group", "_law_spot", "_law_one", "_law_entry"]
abbrev N_law_ps : List Str := ["_law_script"]
theorem sc_law : FnScope N_law N_law_ps (defScope (top 67)) := ⟨rfl, rfl, rfl, by decide +kernel, rfl, by decide +kernel, by decide +kernel⟩
/-! ### what the top has left -/
/-- a def of the text, called without keywords -/
structure DF (K : PySem.W.Frag) (mg : Str → Option Value) (x : Str) (st : Stmt) (ps : List Str) where
  f : Addr
  fd : FuncData
  F : FunD K x x (defArgs st) (defBody st) (defScope st) [] [] f fd
  b : Binds K fd ps []
  m : mg x = some (.ref f)
/-- a method -/
structure MF (K : PySem.W.Frag) (C : Addr) (x qual : Str) (st : Stmt) (ps : List Str) where
  f : Addr
  fd : FuncData
  F : FunD K x qual (defArgs st) (defBody st) (defScope st) [] [] f fd
  b : Binds K fd ps []
  m : Meth K C x f
/-- the empty tuple of the text: a default -/
def EmptyT (K : PySem.W.Frag) (e : Addr) : Prop := ∃ (o : Obj) (its : Array Value) (n : Nat), K.lookup e = some o ∧ o.cls = .type "tuple" ∧ o.data = .seq its n ∧ its.size = 0
structure Tx (K : PySem.W.Frag) (mg : Str → Option Value) where
  Web : Addr
  System : Addr
  g_Web : mg "Web" = some (.ref Web)
  g_System : mg "System" = some (.ref System)
  cl_Web : Cls K Web
  cl_System : Cls K System
  ic_Web : C8.InsC K Web
  eW : Addr
  eT : Addr
  heW : EmptyT K eW
  heT : EmptyT K eT
  na_Web_own_size : NoAttr K Web "own_size"
  na_Web_own_edges : NoAttr K Web "own_edges"
  na_Web_own_modulus : NoAttr K Web "own_modulus"
  na_Web_own_forest : NoAttr K Web "own_forest"
  na_Web_links : NoAttr K Web "links"
  na_System_own_modulus : NoAttr K System "own_modulus"
  na_System_rows : NoAttr K System "rows"
  na_System_links : NoAttr K System "links"
  na_System_groups : NoAttr K System "groups"
  n_len : mg "len" = none
  n_range : mg "range" = none
  n_zip : mg "zip" = none
  n_enumerate : mg "enumerate" = none
  n_isinstance : mg "isinstance" = none
  n_list : mg "list" = none
  n_tuple : mg "tuple" = none
  n_int : mg "int" = none
  n_bool : mg "bool" = none
  n_set : mg "set" = none
  n_sorted : mg "sorted" = none
  n_sum : mg "sum" = none
  n_all : mg "all" = none
  n_abs : mg "abs" = none
  n_min : mg "min" = none
  n_max : mg "max" = none
  t_MOST_NODES : Tok
  g_MOST_NODES : mg "MOST_NODES" = some (.int 30 t_MOST_NODES)
  t_MOST_EDGES : Tok
  g_MOST_EDGES : mg "MOST_EDGES" = some (.int 60 t_MOST_EDGES)
  t_MOST_MODULUS : Tok
  g_MOST_MODULUS : mg "MOST_MODULUS" = some (.int 60 t_MOST_MODULUS)
  t_MOST_WEBS : Tok
  g_MOST_WEBS : mg "MOST_WEBS" = some (.int 6 t_MOST_WEBS)
  reduced_number : DF K mg "reduced_number" (top 16) N_reduced_number_ps
  forest_of : DF K mg "forest_of" (top 17) N_forest_of_ps
  links_of : DF K mg "links_of" (top 18) N_links_of_ps
  walk_paths : DF K mg "walk_paths" (top 19) N_walk_paths_ps
  components_of : DF K mg "components_of" (top 20) N_components_of_ps
  System_init : MF K System "__init__" "System.__init__" (inClass (top 21) 0) N_System_init_ps
  System_path : MF K System "path" "System.path" (inClass (top 21) 1) N_System_path_ps
  System_levels : MF K System "levels" "System.levels" (inClass (top 21) 2) N_System_levels_ps
  System_bad_cycle : MF K System "bad_cycle" "System.bad_cycle" (inClass (top 21) 3) N_System_bad_cycle_ps
  System_solved : MF K System "solved" "System.solved" (inClass (top 21) 4) N_System_solved_ps
  is_integer : DF K mg "is_integer" (top 26) N_is_integer_ps
  is_within : DF K mg "is_within" (top 27) N_is_within_ps
  is_edge : DF K mg "is_edge" (top 28) N_is_edge_ps
  is_modulus : DF K mg "is_modulus" (top 29) N_is_modulus_ps
  check_edges : DF K mg "check_edges" (top 30) N_check_edges_ps
  Web_size : MF K Web "size" "Web.size" (inClass (top 31) 1) N_Web_size_ps
  Web_modulus : MF K Web "modulus" "Web.modulus" (inClass (top 31) 2) N_Web_modulus_ps
  Web_edges : MF K Web "edges" "Web.edges" (inClass (top 31) 3) N_Web_edges_ps
  Web_len : MF K Web "__len__" "Web.__len__" (inClass (top 31) 9) N_Web_len_ps
  check_node : DF K mg "check_node" (top 32) N_check_node_ps
  residue : DF K mg "residue" (top 34) N_residue_ps
  is_residue : DF K mg "is_residue" (top 35) N_is_residue_ps
  are_residues : DF K mg "are_residues" (top 36) N_are_residues_ps
  is_gains : DF K mg "is_gains" (top 37) N_is_gains_ps
  is_potential : DF K mg "is_potential" (top 38) N_is_potential_ps
  check_gains : DF K mg "check_gains" (top 39) N_check_gains_ps
  check_potential : DF K mg "check_potential" (top 40) N_check_potential_ps
  check_fixed : DF K mg "check_fixed" (top 41) N_check_fixed_ps
  switched : DF K mg "switched" (top 43) N_switched_ps
  switch : DF K mg "switch" (top 44) N_switch_ps
  is_switch : DF K mg "is_switch" (top 45) N_is_switch_ps
  potential_of : DF K mg "potential_of" (top 46) N_potential_of_ps
  check_webs : DF K mg "check_webs" (top 49) N_check_webs_ps
  check_all_gains : DF K mg "check_all_gains" (top 50) N_check_all_gains_ps
  law_pool : DF K mg "_law_pool" (top 53) N_law_pool_ps
  law_take : DF K mg "_law_take" (top 54) N_law_take_ps
  law_mod : DF K mg "_law_mod" (top 55) N_law_mod_ps
  law_residue : DF K mg "_law_residue" (top 56) N_law_residue_ps
  law_base : DF K mg "_law_base" (top 57) N_law_base_ps
  law_pairs : DF K mg "_law_pairs" (top 58) N_law_pairs_ps
  law_led : DF K mg "_law_led" (top 59) N_law_led_ps
  law_goal : DF K mg "_law_goal" (top 60) N_law_goal_ps
  law_groups : DF K mg "_law_groups" (top 61) N_law_groups_ps
  law_many_webs : DF K mg "_law_many_webs" (top 63) N_law_many_webs_ps
  law_flat : DF K mg "_law_flat" (top 64) N_law_flat_ps
  law_joint : DF K mg "_law_joint" (top 65) N_law_joint_ps
  law_is_bridge : DF K mg "_law_is_bridge" (top 66) N_law_is_bridge_ps
  law : DF K mg "law" (top 67) N_law_ps
  Web_init_f : Addr
  Web_init_fd : FuncData
  Web_init_F : FunD K "__init__" "Web.__init__" (defArgs (inClass (top 31) 0)) (defBody (inClass (top 31) 0)) (defScope (inClass (top 31) 0)) [.ref eW] [("modulus", .int 0)] Web_init_f Web_init_fd
  transform_all_f : Addr
  transform_all_fd : FuncData
  transform_all_F : FunD K "transform_all" "transform_all" (defArgs (top 51)) (defBody (top 51)) (defScope (top 51)) [] [("fixed", .ref eT)] transform_all_f transform_all_fd
  transform_all_m : mg "transform_all" = some (.ref transform_all_f)
  mk_System : Mk K System System_init.f
  mk_Web : Mk K Web Web_init_f
end Tt
end
section
set_option maxHeartbeats 0
namespace Tt
open PySem PySem.Spec PyProof.Rows L2
/-! ### the head: facts by names, the run -/
/-- the keyword-only default x of the def f, if it is an object -/
def kwAt (f : Str × Option Str) (x : Str) (K : PySem.W.Frag) : Addr := match K.lookup (He.fAd K f) with
  | some ⟨_, _, .func fd, _⟩ => (match fd.kwdefaults with
    | .ref D => (match PySem.W.nsIn K D x with
      | some (some (.ref a)) => a
      | _ => 0)
    | _ => 0)
  | _ => 0
def emptyB (K : PySem.W.Frag) (e : Addr) : Bool := match K.lookup e with
  | some ⟨.type c, _, .seq its _, _⟩ => decide (c = "tuple") && decide (its.size = 0)
  | _ => false
theorem emptyB_ok {K : PySem.W.Frag} {e : Addr} (h : emptyB K e = true) : EmptyT K e := by
  unfold emptyB at h
  split at h
  · rename_i oc od its n osl q
    obtain ⟨h1, h2⟩ := He.ba h
    exact ⟨_, its, n, q, congrArg Value.type (of_decide_eq_true h1), rfl, of_decide_eq_true h2⟩
  · cases h
/-- what isinstance(x, C) asks of the own class C, apart from Cls -/
def insB (K : PySem.W.Frag) (C : Addr) : Bool := He.eqO (PySem.W.findIn K (.ref C) "__class__") (some (some (.builtin "object.__class__"))) && (He.eqO (PySem.W.specialIn K (.builtin "object.__class__") "__get__") (some (some (.builtin "getset_descriptor.__get__"))) &&
  (decide (PySem.W.takesIn K (.builtin "object.__class__") = some true) && (decide (PySem.W.mroIn K C (.type "object") = some true) && decide (PySem.W.kitOne K (.ref C) (.ref C) = some true))))
theorem insB_ok {K : PySem.W.Frag} {C : Addr} (cl : Cls K C) (h : insB K C = true) : C8.InsC K C := by
  obtain ⟨h1, h⟩ := He.ba h
  obtain ⟨h2, h⟩ := He.ba h
  obtain ⟨h3, h⟩ := He.ba h
  obtain ⟨h4, h5⟩ := He.ba h
  exact ⟨cl, He.eqO_ok h1, He.eqO_ok h2, of_decide_eq_true h3, of_decide_eq_true h4, of_decide_eq_true h5⟩
def d_reduced_number : He.DefD := ⟨("reduced_number", none), "reduced_number", "reduced_number", defArgs (top 16), defBody (top 16), defScope (top 16), [], []⟩
def d_forest_of : He.DefD := ⟨("forest_of", none), "forest_of", "forest_of", defArgs (top 17), defBody (top 17), defScope (top 17), [], []⟩
def d_links_of : He.DefD := ⟨("links_of", none), "links_of", "links_of", defArgs (top 18), defBody (top 18), defScope (top 18), [], []⟩
def d_walk_paths : He.DefD := ⟨("walk_paths", none), "walk_paths", "walk_paths", defArgs (top 19), defBody (top 19), defScope (top 19), [], []⟩
def d_components_of : He.DefD := ⟨("components_of", none), "components_of", "components_of", defArgs (top 20), defBody (top 20), defScope (top 20), [], []⟩
def d_System_init : He.DefD := ⟨("System", some "__init__"), "__init__", "System.__init__", defArgs (inClass (top 21) 0), defBody (inClass (top 21) 0), defScope (inClass (top 21) 0), [], []⟩
def d_System_path : He.DefD := ⟨("System", some "path"), "path", "System.path", defArgs (inClass (top 21) 1), defBody (inClass (top 21) 1), defScope (inClass (top 21) 1), [], []⟩
def d_System_levels : He.DefD := ⟨("System", some "levels"), "levels", "System.levels", defArgs (inClass (top 21) 2), defBody (inClass (top 21) 2), defScope (inClass (top 21) 2), [], []⟩
def d_System_bad_cycle : He.DefD := ⟨("System", some "bad_cycle"), "bad_cycle", "System.bad_cycle", defArgs (inClass (top 21) 3), defBody (inClass (top 21) 3), defScope (inClass (top 21) 3), [], []⟩
def d_System_solved : He.DefD := ⟨("System", some "solved"), "solved", "System.solved", defArgs (inClass (top 21) 4), defBody (inClass (top 21) 4), defScope (inClass (top 21) 4), [], []⟩
def d_is_integer : He.DefD := ⟨("is_integer", none), "is_integer", "is_integer", defArgs (top 26), defBody (top 26), defScope (top 26), [], []⟩
def d_is_within : He.DefD := ⟨("is_within", none), "is_within", "is_within", defArgs (top 27), defBody (top 27), defScope (top 27), [], []⟩
def d_is_edge : He.DefD := ⟨("is_edge", none), "is_edge", "is_edge", defArgs (top 28), defBody (top 28), defScope (top 28), [], []⟩
def d_is_modulus : He.DefD := ⟨("is_modulus", none), "is_modulus", "is_modulus", defArgs (top 29), defBody (top 29), defScope (top 29), [], []⟩
def d_check_edges : He.DefD := ⟨("check_edges", none), "check_edges", "check_edges", defArgs (top 30), defBody (top 30), defScope (top 30), [], []⟩
def d_Web_init : He.DefD := ⟨("Web", some "__init__"), "__init__", "Web.__init__", defArgs (inClass (top 31) 0), defBody (inClass (top 31) 0), defScope (inClass (top 31) 0), [.adr (He.dflAt ("Web", some "__init__") 0)], [("modulus", .int 0)]⟩
def d_Web_size : He.DefD := ⟨("Web", some "size"), "size", "Web.size", defArgs (inClass (top 31) 1), defBody (inClass (top 31) 1), defScope (inClass (top 31) 1), [], []⟩
def d_Web_modulus : He.DefD := ⟨("Web", some "modulus"), "modulus", "Web.modulus", defArgs (inClass (top 31) 2), defBody (inClass (top 31) 2), defScope (inClass (top 31) 2), [], []⟩
def d_Web_edges : He.DefD := ⟨("Web", some "edges"), "edges", "Web.edges", defArgs (inClass (top 31) 3), defBody (inClass (top 31) 3), defScope (inClass (top 31) 3), [], []⟩
def d_Web_len : He.DefD := ⟨("Web", some "__len__"), "__len__", "Web.__len__", defArgs (inClass (top 31) 9), defBody (inClass (top 31) 9), defScope (inClass (top 31) 9), [], []⟩
def d_check_node : He.DefD := ⟨("check_node", none), "check_node", "check_node", defArgs (top 32), defBody (top 32), defScope (top 32), [], []⟩
def d_residue : He.DefD := ⟨("residue", none), "residue", "residue", defArgs (top 34), defBody (top 34), defScope (top 34), [], []⟩
def d_is_residue : He.DefD := ⟨("is_residue", none), "is_residue", "is_residue", defArgs (top 35), defBody (top 35), defScope (top 35), [], []⟩
def d_are_residues : He.DefD := ⟨("are_residues", none), "are_residues", "are_residues", defArgs (top 36), defBody (top 36), defScope (top 36), [], []⟩
def d_is_gains : He.DefD := ⟨("is_gains", none), "is_gains", "is_gains", defArgs (top 37), defBody (top 37), defScope (top 37), [], []⟩
def d_is_potential : He.DefD := ⟨("is_potential", none), "is_potential", "is_potential", defArgs (top 38), defBody (top 38), defScope (top 38), [], []⟩
def d_check_gains : He.DefD := ⟨("check_gains", none), "check_gains", "check_gains", defArgs (top 39), defBody (top 39), defScope (top 39), [], []⟩
def d_check_potential : He.DefD := ⟨("check_potential", none), "check_potential", "check_potential", defArgs (top 40), defBody (top 40), defScope (top 40), [], []⟩
def d_check_fixed : He.DefD := ⟨("check_fixed", none), "check_fixed", "check_fixed", defArgs (top 41), defBody (top 41), defScope (top 41), [], []⟩
def d_switched : He.DefD := ⟨("switched", none), "switched", "switched", defArgs (top 43), defBody (top 43), defScope (top 43), [], []⟩
def d_switch : He.DefD := ⟨("switch", none), "switch", "switch", defArgs (top 44), defBody (top 44), defScope (top 44), [], []⟩
def d_is_switch : He.DefD := ⟨("is_switch", none), "is_switch", "is_switch", defArgs (top 45), defBody (top 45), defScope (top 45), [], []⟩
def d_potential_of : He.DefD := ⟨("potential_of", none), "potential_of", "potential_of", defArgs (top 46), defBody (top 46), defScope (top 46), [], []⟩
def d_check_webs : He.DefD := ⟨("check_webs", none), "check_webs", "check_webs", defArgs (top 49), defBody (top 49), defScope (top 49), [], []⟩
def d_check_all_gains : He.DefD := ⟨("check_all_gains", none), "check_all_gains", "check_all_gains", defArgs (top 50), defBody (top 50), defScope (top 50), [], []⟩
def d_transform_all : He.DefD := ⟨("transform_all", none), "transform_all", "transform_all", defArgs (top 51), defBody (top 51), defScope (top 51), [], [("fixed", .adr (kwAt ("transform_all", none) "fixed"))]⟩
def d_law_pool : He.DefD := ⟨("_law_pool", none), "_law_pool", "_law_pool", defArgs (top 53), defBody (top 53), defScope (top 53), [], []⟩
def d_law_take : He.DefD := ⟨("_law_take", none), "_law_take", "_law_take", defArgs (top 54), defBody (top 54), defScope (top 54), [], []⟩
def d_law_mod : He.DefD := ⟨("_law_mod", none), "_law_mod", "_law_mod", defArgs (top 55), defBody (top 55), defScope (top 55), [], []⟩
def d_law_residue : He.DefD := ⟨("_law_residue", none), "_law_residue", "_law_residue", defArgs (top 56), defBody (top 56), defScope (top 56), [], []⟩
def d_law_base : He.DefD := ⟨("_law_base", none), "_law_base", "_law_base", defArgs (top 57), defBody (top 57), defScope (top 57), [], []⟩
def d_law_pairs : He.DefD := ⟨("_law_pairs", none), "_law_pairs", "_law_pairs", defArgs (top 58), defBody (top 58), defScope (top 58), [], []⟩
def d_law_led : He.DefD := ⟨("_law_led", none), "_law_led", "_law_led", defArgs (top 59), defBody (top 59), defScope (top 59), [], []⟩
def d_law_goal : He.DefD := ⟨("_law_goal", none), "_law_goal", "_law_goal", defArgs (top 60), defBody (top 60), defScope (top 60), [], []⟩
def d_law_groups : He.DefD := ⟨("_law_groups", none), "_law_groups", "_law_groups", defArgs (top 61), defBody (top 61), defScope (top 61), [], []⟩
def d_law_many_webs : He.DefD := ⟨("_law_many_webs", none), "_law_many_webs", "_law_many_webs", defArgs (top 63), defBody (top 63), defScope (top 63), [], []⟩
def d_law_flat : He.DefD := ⟨("_law_flat", none), "_law_flat", "_law_flat", defArgs (top 64), defBody (top 64), defScope (top 64), [], []⟩
def d_law_joint : He.DefD := ⟨("_law_joint", none), "_law_joint", "_law_joint", defArgs (top 65), defBody (top 65), defScope (top 65), [], []⟩
def d_law_is_bridge : He.DefD := ⟨("_law_is_bridge", none), "_law_is_bridge", "_law_is_bridge", defArgs (top 66), defBody (top 66), defScope (top 66), [], []⟩
def d_law : He.DefD := ⟨("law", none), "law", "law", defArgs (top 67), defBody (top 67), defScope (top 67), [], []⟩
def fnL : List He.DefD := [d_reduced_number, d_forest_of, d_links_of, d_walk_paths, d_components_of, d_System_init, d_System_path, d_System_levels, d_System_bad_cycle, d_System_solved, d_is_integer, d_is_within, d_is_edge, d_is_modulus, d_check_edges, d_Web_init, d_Web_size, d_Web_modulus, d_Web_edges, d_Web_len, d_check_node, d_residue, d_is_residue, d_are_residues, d_is_gains, d_is_potential, d_check_gains, d_check_potential, d_check_fixed, d_switched, d_switch, d_is_switch, d_potential_of, d_check_webs, d_check_all_gains, d_transform_all, d_law_pool, d_law_take, d_law_mod, d_law_residue, d_law_base, d_law_pairs, d_law_led, d_law_goal, d_law_groups, d_law_many_webs, d_law_flat, d_law_joint, d_law_is_bridge, d_law]
def faL : List He.Fa := [.glo "reduced_number", .glo "forest_of", .glo "links_of", .glo "walk_paths", .glo "components_of", .glo "is_integer", .glo "is_within", .glo "is_edge", .glo "is_modulus", .glo "check_edges", .glo "check_node", .glo "residue", .glo "is_residue", .glo "are_residues", .glo "is_gains", .glo "is_potential", .glo "check_gains", .glo "check_potential", .glo "check_fixed", .glo "switched", .glo "switch", .glo "is_switch", .glo "potential_of", .glo "check_webs", .glo "check_all_gains", .glo "transform_all", .glo "_law_pool", .glo "_law_take", .glo "_law_mod", .glo "_law_residue", .glo "_law_base", .glo "_law_pairs", .glo "_law_led", .glo "_law_goal", .glo "_law_groups", .glo "_law_many_webs", .glo "_law_flat", .glo "_law_joint", .glo "_law_is_bridge", .glo "law", .glo "Web", .cls "Web", .mkr "Web", .noat "Web" "own_size", .noat "Web" "own_edges", .noat "Web" "own_modulus", .noat "Web" "own_forest", .noat "Web" "links", .glo "System", .cls "System", .mkr "System", .noat "System" "own_modulus", .noat "System" "rows", .noat "System" "links", .noat "System" "groups", .meth "System" "__init__", .meth "System" "path", .meth "System" "levels", .meth "System" "bad_cycle", .meth "System" "solved", .meth "Web" "__init__", .meth "Web" "size", .meth "Web" "modulus", .meth "Web" "edges", .meth "Web" "__len__", .free "len", .free "range", .free "zip", .free "enumerate", .free "isinstance", .free "list", .free "tuple", .free "int", .free "bool", .free "set", .free "sorted", .free "sum", .free "all", .free "abs", .free "min", .free "max", .int "MOST_NODES" 30, .int "MOST_EDGES" 60, .int "MOST_MODULUS" 60, .int "MOST_WEBS" 6]
def emL : List (PySem.W.Frag → Addr) := [He.dflAt ("Web", some "__init__") 0, kwAt ("transform_all", none) "fixed"]
abbrev AlX : Type := He.AlD × Bool
def obsX (K : PySem.W.Frag) : AlX := (He.obsD faL fnL K, (emL.all fun p => emptyB K (p K)) && insB K (He.ga K "Web"))
def SaysX (K : PySem.W.Frag) : Prop := obsX K = (He.valD fnL, true)
def obsXG (g : Addr → Option Obj) : AlX := obsX (He.frG g (He.asD g 5))
def hookX : PySem.W.Hook where
  α := AlX
  obs := fun s => obsXG s.heap.get?
  val := fun _ => (He.valD fnL, true)
  says := fun _ h => ∃ K : PySem.W.Frag, K.In h ∧ SaysX K
  of := fun _ _ e => ⟨_, He.frG_in, e⟩
  keeps := fun _ _ _ ⟨K, hK, c⟩ k => ⟨K, PySem.W.Frag.In.keeps hK k, c⟩
def obX (s : PySem.W.SharedT) : AlX := obsXG (HandSHeadRun.getT s)
theorem obX_eq (s : PySem.W.SharedT) : obX s = hookX.obs s.abs := by
  have e : HandSHeadRun.getT s = s.abs.heap.get? := funext (HandSHeadRun.getT_eq s)
  show obsXG (HandSHeadRun.getT s) = obsXG s.abs.heap.get?
  rw [e]
abbrev RowX : PySem.W.OpenRow := PySem.W.OpenLaw.row PySem.Challenge.rw_turnedties_k55_whole_one_potential_for_a
def loose0 : List Str := ["_wall", "WebError", "InvalidModulus", "InvalidSize", "InvalidEdge", "InvalidNode", "InvalidAmount", "InvalidGains", "InvalidPotential", "InvalidSwitch", "InvalidFixed", "InvalidWebs"]
def loose1 : List Str := ["NoEdge", "TooMany", "reduced_number", "forest_of", "links_of", "walk_paths", "components_of", "System", "MOST_NODES", "MOST_EDGES", "MOST_MODULUS", "is_integer"]
def loose2 : List Str := ["is_within", "is_edge", "is_modulus", "check_edges", "Web", "check_node", "residue", "is_residue", "are_residues", "is_gains", "is_potential", "check_gains"]
def loose3 : List Str := ["check_potential", "check_fixed", "switched", "switch", "is_switch", "potential_of", "MOST_WEBS", "check_webs", "check_all_gains", "transform_all", "_law_pool", "_law_take"]
def loose4 : List Str := ["_law_mod", "_law_residue", "_law_base", "_law_pairs", "_law_led", "_law_goal", "_law_groups", "_law_levels", "_law_many_webs", "_law_flat", "_law_joint", "_law_is_bridge"]
abbrev looseL : List Str := loose0 ++ loose1 ++ loose2 ++ loose3 ++ loose4
theorem runX (w : World) : HandSHeadRun.RunEq RowX (PySem.W.view RowX.prog [67]) hookX obX 6000 looseL w := by
  intro os
  kernel_rfl
end Tt
end
section
set_option maxHeartbeats 4000000
namespace Tt
/-! ### residues -/
def red (m x : Int) : Int := if 0 < m then x % m else x
def ModOk (m : Int) : Prop := m = 0 ∨ (2 ≤ m ∧ m ≤ 60)
def Res (m x : Int) : Prop := 0 < m → 0 ≤ x ∧ x < m
theorem ModOk.nn {m : Int} (h : ModOk m) : 0 ≤ m := by rcases h with h | h <;> omega
theorem red_res (m x : Int) : Res m (red m x) := fun h => by
  unfold red
  rw [if_pos h]
  exact ⟨Int.emod_nonneg _ (by omega), Int.emod_lt_of_pos _ h⟩
theorem red_dvd (m x : Int) : m ∣ red m x - x := by
  unfold red
  split
  · exact ⟨-(x / m), by have := Int.emod_add_mul_ediv x m; rw [Int.mul_neg]; omega⟩
  · rw [Int.sub_self]; exact Int.dvd_zero m
theorem dvd_flip {m x y : Int} (h : m ∣ x - y) : m ∣ y - x := by
  rw [← Int.neg_sub]
  exact Int.dvd_neg.mpr h
theorem red_zero {m x : Int} (hm : ModOk m) : red m x = 0 ↔ m ∣ x := by
  unfold red
  split
  · exact (Int.dvd_iff_emod_eq_zero).symm
  · have : m = 0 := by rcases hm with h | h <;> omega
    subst this
    exact ⟨fun h => by subst h; exact Int.dvd_zero 0, fun h => Int.zero_dvd.mp h⟩
theorem red_congr {m x y : Int} (hm : ModOk m) (h : m ∣ x - y) : red m x = red m y := by
  unfold red
  split
  · exact Int.emod_eq_emod_iff_emod_sub_eq_zero.mpr (Int.emod_eq_zero_of_dvd h)
  · have h0 : m = 0 := by rcases hm with h | h <;> omega
    subst h0
    have := Int.zero_dvd.mp h
    omega
theorem res_eq {m x y : Int} (hm : ModOk m) (hx : Res m x) (hy : Res m y) (h : m ∣ x - y) : x = y := by
  by_cases h0 : 0 < m
  · have e : x % m = y % m := Int.emod_eq_emod_iff_emod_sub_eq_zero.mpr (Int.emod_eq_zero_of_dvd h)
    rw [Int.emod_eq_of_lt (hx h0).1 (hx h0).2, Int.emod_eq_of_lt (hy h0).1 (hy h0).2] at e
    exact e
  · have h0 : m = 0 := by rcases hm with h | h <;> omega
    subst h0
    have := Int.zero_dvd.mp h
    omega
theorem red_self {m x : Int} (hm : ModOk m) (hx : Res m x) : red m x = x := res_eq hm (red_res m x) hx (red_dvd m x)
theorem not_dvd_one {m : Int} (hm : ModOk m) : ¬ m ∣ 1 := fun h => by
  have := Int.le_of_dvd (by decide) h
  rcases hm with e | e
  · subst e
    have := Int.zero_dvd.mp h
    omega
  · omega
theorem dvd_lin2 {m a b c : Int} (h1 : m ∣ a) (h2 : m ∣ b) (e : c = a + b) : m ∣ c := e ▸ Int.dvd_add h1 h2
theorem dvd_lin2' {m a b c : Int} (h1 : m ∣ a) (h2 : m ∣ b) (e : c = a - b) : m ∣ c := e ▸ Int.dvd_sub h1 h2

/-! ### connection -/
abbrev Es := List (Nat × Nat)
inductive Cn (ps : Es) (F : List Nat) (u : Nat) : Nat → Prop
  | rf : Cn ps F u u
  | fw {i t h : Nat} : i ∈ F → ps[i]? = some (t, h) → Cn ps F u t → Cn ps F u h
  | bw {i t h : Nat} : i ∈ F → ps[i]? = some (t, h) → Cn ps F u h → Cn ps F u t
theorem Cn.refl {ps : Es} {F : List Nat} (u : Nat) : Cn ps F u u := .rf
section
variable {ps : Es} {F F' : List Nat} {u v w : Nat}
theorem Cn.trans (a : Cn ps F u v) (b : Cn ps F v w) : Cn ps F u w := by
  induction b with
  | rf => exact a
  | fw h1 h2 _ ih => exact .fw h1 h2 ih
  | bw h1 h2 _ ih => exact .bw h1 h2 ih
theorem Cn.symm (a : Cn ps F u v) : Cn ps F v u := by
  induction a with
  | rf => exact .refl _
  | fw h1 h2 _ ih => exact (Cn.bw h1 h2 (.refl _)).trans ih
  | bw h1 h2 _ ih => exact (Cn.fw h1 h2 (.refl _)).trans ih
theorem Cn.mono (a : Cn ps F u v) (h : ∀ i ∈ F, i ∈ F') : Cn ps F' u v := by
  induction a with
  | rf => exact .refl _
  | fw h1 h2 _ ih => exact .fw (h _ h1) h2 ih
  | bw h1 h2 _ ih => exact .bw (h _ h1) h2 ih
end
/-- every end is a node -/
def EdOk (n : Nat) (ps : Es) : Prop := ∀ e ∈ ps, e.1 < n ∧ e.2 < n
theorem EdOk.at_ {n : Nat} {ps : Es} (h : EdOk n ps) {i t hd : Nat} (e : ps[i]? = some (t, hd)) : t < n ∧ hd < n := h _ (List.mem_of_getElem? e)

/-! ### the forest -/
structure ForestOk (ps : Es) (F : List Nat) : Prop where
  lt : ∀ i ∈ F, i < ps.length
  con : ∀ (i t h : Nat), ps[i]? = some (t, h) → Cn ps F t h
  sol : ∀ d : Nat → Int, ∃ q : Nat → Int, ∀ i ∈ F, ∀ t h, ps[i]? = some (t, h) → q t - q h = d i
/-- between two turns of the loop: i pairs taken, g the groups, F the forest -/
structure GI (n : Nat) (ps : Es) (i : Nat) (g F : List Nat) : Prop where
  len : g.length = n
  lt : ∀ j ∈ F, j < i
  le : i ≤ ps.length
  fl : F.length ≤ i
  grp : ∀ (u v x : Nat), g[u]? = some x → g[v]? = some x → Cn ps F u v
  edge : ∀ (j t h : Nat), j < i → ps[j]? = some (t, h) → g[t]? = g[h]?
  sol : ∀ d : Nat → Int, ∃ q : Nat → Int, ∀ j ∈ F, ∀ t h, ps[j]? = some (t, h) → q t - q h = d j
theorem GI.start (n : Nat) (ps : Es) : GI n ps 0 (List.range n) [] where
  len := List.length_range
  lt := fun _ h => nomatch h
  le := Nat.zero_le _
  fl := Nat.le_refl _
  grp := fun u v x h1 h2 => by
    obtain ⟨a1, b1⟩ := List.getElem?_eq_some_iff.mp h1
    obtain ⟨a2, b2⟩ := List.getElem?_eq_some_iff.mp h2
    rw [List.getElem_range] at b1 b2
    rw [b1, b2]
    exact .refl _
  edge := fun _ _ _ h => nomatch h
  sol := fun _ => ⟨fun _ => 0, fun _ h => nomatch h⟩
theorem GI.skip {n : Nat} {ps : Es} {i t h : Nat} {g F : List Nat} (G : GI n ps i g F) (e : ps[i]? = some (t, h)) (hg : g[t]? = g[h]?) : GI n ps (i + 1) g F where
  len := G.len
  lt := fun j hj => Nat.lt_succ_of_lt (G.lt j hj)
  le := (List.getElem?_eq_some_iff.mp e).1
  fl := Nat.le_succ_of_le G.fl
  grp := G.grp
  edge := fun j t' h' hj ej => by
    by_cases hji : j = i
    · subst hji
      rw [e] at ej
      cases ej
      exact hg
    · exact G.edge j t' h' (by omega) ej
  sol := G.sol
theorem GI.take {n : Nat} {ps : Es} {i t h x y : Nat} {g F : List Nat} (G : GI n ps i g F) (e : ps[i]? = some (t, h)) (ht : g[t]? = some x) (hh : g[h]? = some y) (hne : x ≠ y) :
    GI n ps (i + 1) (g.map fun z => if z = y then x else z) (F ++ [i]) where
  len := by rw [List.length_map]; exact G.len
  lt := fun j hj => by
    rcases List.mem_append.mp hj with hj | hj
    · exact Nat.lt_succ_of_lt (G.lt j hj)
    · rw [List.mem_singleton.mp hj]; exact Nat.lt_succ_self _
  le := (List.getElem?_eq_some_iff.mp e).1
  fl := by rw [List.length_append]; exact Nat.succ_le_succ G.fl
  grp := fun u v z hu hv => by
    have mono : ∀ {a b}, Cn ps F a b → Cn ps (F ++ [i]) a b := fun c => c.mono fun _ hj => List.mem_append_left _ hj
    have new : Cn ps (F ++ [i]) t h := .fw (List.mem_append_right _ (List.mem_singleton.mpr rfl)) e (.refl _)
    rw [List.getElem?_map] at hu hv
    cases eu : g[u]? with
    | none => rw [eu] at hu; cases hu
    | some a =>
      cases ev : g[v]? with
      | none => rw [ev] at hv; cases hv
      | some b =>
        rw [eu] at hu
        rw [ev] at hv
        simp only [Option.map_some, Option.some.injEq] at hu hv
        by_cases ha : a = y
        · subst ha
          rw [if_pos rfl] at hu
          subst hu
          by_cases hb : b = a
          · subst hb
            exact mono (G.grp u v _ eu ev)
          · rw [if_neg hb] at hv
            subst hv
            exact (mono (G.grp u h _ eu hh)).trans (new.symm.trans (mono (G.grp t v _ ht ev)))
        · rw [if_neg ha] at hu
          subst hu
          by_cases hb : b = y
          · subst hb
            rw [if_pos rfl] at hv
            subst hv
            exact (mono (G.grp u t _ eu ht)).trans (new.trans (mono (G.grp h v _ hh ev)))
          · rw [if_neg hb] at hv
            subst hv
            exact mono (G.grp u v _ eu ev)
  edge := fun j t' h' hj ej => by
    rw [List.getElem?_map, List.getElem?_map]
    by_cases hji : j = i
    · subst hji
      rw [e] at ej
      cases ej
      rw [ht, hh]
      simp only [Option.map_some, if_pos, if_neg hne]
    · rw [G.edge j t' h' (by omega) ej]
  sol := fun d => by
    obtain ⟨q, hq⟩ := G.sol d
    refine ⟨fun v => if g[v]? = some y then q v + (q t - q h - d i) else q v, fun j hj t' h' ej => ?_⟩
    rcases List.mem_append.mp hj with hj | hj
    · have e1 := G.edge j t' h' (G.lt j hj) ej
      have e2 := hq j hj t' h' ej
      show (if g[t']? = some y then q t' + (q t - q h - d i) else q t') - (if g[h']? = some y then q h' + (q t - q h - d i) else q h') = d j
      rw [e1]
      split <;> omega
    · have hj := List.mem_singleton.mp hj
      subst hj
      rw [e] at ej
      cases ej
      show (if g[t]? = some y then _ else q t) - (if g[h]? = some y then q h + (q t - q h - d j) else _) = d j
      rw [if_pos hh, if_neg (by rw [ht]; intro z; exact hne (Option.some.inj z))]
      omega
theorem GI.done {n : Nat} {ps : Es} {g F : List Nat} (G : GI n ps ps.length g F) (hp : EdOk n ps) : ForestOk ps F where
  lt := G.lt
  con := fun i t h e => by
    have hi := (List.getElem?_eq_some_iff.mp e).1
    obtain ⟨h1, h2⟩ := hp.at_ e
    have h3 := G.edge i t h hi e
    have h4 : g[t]? = some (g[t]'(by rw [G.len]; exact h1)) := List.getElem?_eq_getElem _
    exact G.grp t h _ h4 (h3 ▸ h4)
  sol := G.sol

/-! ### the links -/
abbrev Lk := Nat × Int × Nat
/-- the link (i, w, v) at u stands for a step of the pair i -/
def StepOf (ps : Es) (u : Nat) (l : Lk) : Prop := (l.2.1 = 1 ∧ ps[l.1]? = some (u, l.2.2)) ∨ (l.2.1 = -1 ∧ ps[l.1]? = some (l.2.2, u))
structure LinksOk (n : Nat) (ps : Es) (F : List Nat) (Ls : List (List Lk)) : Prop where
  len : Ls.length = n
  snd : ∀ (u : Nat) (l : List Lk) (x : Lk), Ls[u]? = some l → x ∈ l → x.1 ∈ F ∧ StepOf ps u x
  cmp : ∀ i ∈ F, ∀ t h, ps[i]? = some (t, h) → (∃ l, Ls[t]? = some l ∧ (i, (1 : Int), h) ∈ l) ∧ ∃ l, Ls[h]? = some l ∧ (i, (-1 : Int), t) ∈ l
  few : ∀ l ∈ Ls, l.length ≤ 2 * F.length
def addAt (Ls : List (List Lk)) (u : Nat) (x : Lk) : List (List Lk) := Ls.modify u (· ++ [x])
theorem addAt_len (Ls : List (List Lk)) (u : Nat) (x : Lk) : (addAt Ls u x).length = Ls.length := List.length_modify ..
theorem addAt_get (Ls : List (List Lk)) (u v : Nat) (x : Lk) : (addAt Ls u x)[v]? = if u = v then Ls[v]?.map (· ++ [x]) else Ls[v]? := by
  unfold addAt
  rw [List.getElem?_modify]
  split <;> simp
theorem LinksOk.start (n : Nat) (ps : Es) : LinksOk n ps [] (List.replicate n []) where
  len := List.length_replicate
  snd := fun u l x h hx => by
    have := List.mem_of_getElem? h
    rw [List.eq_of_mem_replicate this] at hx
    cases hx
  cmp := fun _ h => nomatch h
  few := fun l hl => by rw [List.eq_of_mem_replicate hl]; exact Nat.le_refl _
theorem LinksOk.add {n : Nat} {ps : Es} {F : List Nat} {Ls : List (List Lk)} (K : LinksOk n ps F Ls) {i t h : Nat} (e : ps[i]? = some (t, h)) (ht : t < n) (hh : h < n) :
    LinksOk n ps (F ++ [i]) (addAt (addAt Ls t (i, 1, h)) h (i, -1, t)) where
  len := by rw [addAt_len, addAt_len]; exact K.len
  snd := fun u l x hl hx => by
    have old : ∀ l', Ls[u]? = some l' → x ∈ l' → x.1 ∈ F ++ [i] ∧ StepOf ps u x := fun l' h1 h2 => ⟨List.mem_append_left _ (K.snd u l' x h1 h2).1, (K.snd u l' x h1 h2).2⟩
    have mi : i ∈ F ++ [i] := List.mem_append_right _ (List.mem_singleton.mpr rfl)
    have hu : ∃ l0, Ls[u]? = some l0 := by
      cases q : Ls[u]? with
      | some l0 => exact ⟨l0, rfl⟩
      | none =>
        rw [addAt_get, addAt_get, q] at hl
        simp at hl
    obtain ⟨l0, h0⟩ := hu
    rw [addAt_get, addAt_get, h0] at hl
    have cases3 : x ∈ l0 ∨ (t = u ∧ x = (i, 1, h)) ∨ (h = u ∧ x = (i, -1, t)) := by
      by_cases c1 : h = u <;> by_cases c2 : t = u
      · rw [if_pos c1, if_pos c2] at hl
        simp only [Option.map_some, Option.some.injEq] at hl
        subst hl
        rcases List.mem_append.mp hx with hx | hx
        · rcases List.mem_append.mp hx with hx | hx
          · exact .inl hx
          · exact .inr (.inl ⟨c2, List.mem_singleton.mp hx⟩)
        · exact .inr (.inr ⟨c1, List.mem_singleton.mp hx⟩)
      · rw [if_pos c1, if_neg c2] at hl
        simp only [Option.map_some, Option.some.injEq] at hl
        subst hl
        rcases List.mem_append.mp hx with hx | hx
        · exact .inl hx
        · exact .inr (.inr ⟨c1, List.mem_singleton.mp hx⟩)
      · rw [if_neg c1, if_pos c2] at hl
        simp only [Option.map_some, Option.some.injEq] at hl
        subst hl
        rcases List.mem_append.mp hx with hx | hx
        · exact .inl hx
        · exact .inr (.inl ⟨c2, List.mem_singleton.mp hx⟩)
      · rw [if_neg c1, if_neg c2] at hl
        cases hl
        exact .inl hx
    rcases cases3 with c | ⟨c, rfl⟩ | ⟨c, rfl⟩
    · exact old l0 h0 c
    · subst c; exact ⟨mi, .inl ⟨rfl, e⟩⟩
    · subst c; exact ⟨mi, .inr ⟨rfl, e⟩⟩
  cmp := fun j hj t' h' ej => by
    have keep : ∀ (u : Nat) (l : List Lk) (y : Lk), Ls[u]? = some l → y ∈ l → ∃ l', (addAt (addAt Ls t (i, 1, h)) h (i, -1, t))[u]? = some l' ∧ y ∈ l' := fun u l y hl hy => by
      rw [addAt_get, addAt_get, hl]
      by_cases c1 : h = u <;> by_cases c2 : t = u <;> simp [c1, c2, hy]
    rcases List.mem_append.mp hj with hj | hj
    · obtain ⟨⟨l1, a1, b1⟩, l2, a2, b2⟩ := K.cmp j hj t' h' ej
      exact ⟨keep _ _ _ a1 b1, keep _ _ _ a2 b2⟩
    · have hj := List.mem_singleton.mp hj
      subst hj
      rw [e] at ej
      cases ej
      have h1 : ∃ l, Ls[t]? = some l := ⟨_, List.getElem?_eq_getElem (by rw [K.len]; exact ht)⟩
      have h2 : ∃ l, Ls[h]? = some l := ⟨_, List.getElem?_eq_getElem (by rw [K.len]; exact hh)⟩
      obtain ⟨l1, h1⟩ := h1
      obtain ⟨l2, h2⟩ := h2
      constructor
      · rw [addAt_get, addAt_get, h1]
        by_cases c1 : h = t <;> simp [c1]
      · rw [addAt_get, addAt_get, h2]
        by_cases c1 : t = h <;> simp [c1]
  few := fun l hl => by
    obtain ⟨u, hu⟩ := List.mem_iff_getElem?.mp hl
    rw [addAt_get, addAt_get] at hu
    rw [List.length_append]
    cases q : Ls[u]? with
    | none => rw [q] at hu; simp at hu
    | some l0 =>
      have := K.few l0 (List.mem_of_getElem? q)
      rw [q] at hu
      by_cases c1 : h = u <;> by_cases c2 : t = u <;> simp [c1, c2] at hu <;> subst hu <;> simp <;> omega
end Tt
end
section
set_option maxHeartbeats 4000000
namespace Tt
/-! ### paths in the forest -/
abbrev Pt := List (Nat × Int)
inductive Wk (ps : Es) (F : List Nat) (s : Nat) : Pt → Nat → Prop
  | nil : Wk ps F s [] s
  | snoc {P : Pt} {u v i : Nat} {w : Int} : Wk ps F s P u → i ∈ F → StepOf ps u (i, w, v) → Wk ps F s (P ++ [(i, w)]) v
def total (d : Nat → Int) (P : Pt) : Int := (P.map fun x => x.2 * d x.1).sum
theorem total_snoc (d : Nat → Int) (P : Pt) (x : Nat × Int) : total d (P ++ [x]) = total d P + x.2 * d x.1 := by
  unfold total
  rw [List.map_append, List.sum_append]
  simp
section
variable {ps : Es} {F : List Nat} {s v : Nat} {P : Pt}
theorem Wk.cn (h : Wk ps F s P v) : Cn ps F s v := by
  induction h with
  | nil => exact Cn.refl _
  | snoc _ hi st ih =>
    rcases st with ⟨_, e⟩ | ⟨_, e⟩
    · exact .fw hi e ih
    · exact .bw hi e ih
theorem Wk.total {m : Int} {q d : Nat → Int} (h : Wk ps F s P v) (hq : ∀ x ∈ P, ∀ (t h : Nat), ps[x.1]? = some (t, h) → m ∣ q t - q h - d x.1) : m ∣ total d P - (q s - q v) := by
  induction h with
  | nil => exact ⟨0, by show (0 : Int) - _ = _; omega⟩
  | @snoc P u v i w _ hi st ih =>
    have h1 := ih fun x hx => hq x (List.mem_append_left _ hx)
    have h2 := hq (i, w) (List.mem_append_right _ (List.mem_singleton.mpr rfl))
    rw [total_snoc]
    rcases st with ⟨e1, e⟩ | ⟨e1, e⟩
    · have e1 : w = 1 := e1
      subst e1
      exact dvd_lin2' h1 (h2 _ _ e) (by dsimp only; omega)
    · have e1 : w = -1 := e1
      subst e1
      exact dvd_lin2 h1 (h2 _ _ e) (by dsimp only; omega)
end
theorem nodup_le : ∀ (n : Nat) (l : List Nat), l.Nodup → (∀ x ∈ l, x < n) → l.length ≤ n
  | 0, l, _, h => by
    cases l with
    | nil => exact Nat.le_refl _
    | cons a r => exact absurd (h a List.mem_cons_self) (Nat.not_lt_zero _)
  | n + 1, l, hd, h => by
    have ih := nodup_le n (l.erase n) (hd.erase n) fun x hx => by
      have h1 := h x (List.mem_of_mem_erase hx)
      have h2 : x ≠ n := fun e => by
        subst e
        exact (List.Nodup.mem_erase_iff hd).mp hx |>.1 rfl
      omega
    by_cases hm : n ∈ l
    · rw [List.length_erase_of_mem hm] at ih
      omega
    · rw [List.erase_of_not_mem hm] at ih
      omega
abbrev Kv := List (Nat × Pt)
abbrev keys (K : Kv) : List Nat := K.map (·.1)
/-- what holds of the paths found so far -/
structure BF (n : Nat) (ps : Es) (F : List Nat) (s : Nat) (K : Kv) : Prop where
  nd : (keys K).Nodup
  ok : ∀ x ∈ K, x.1 < n ∧ Wk ps F s x.2 x.1 ∧ x.2.length < K.length
  st : s ∈ keys K
theorem BF.start {n : Nat} {ps : Es} {F : List Nat} {s : Nat} (h : s < n) : BF n ps F s [(s, [])] where
  nd := List.nodup_cons.mpr ⟨fun h => (nomatch h), List.nodup_nil⟩
  ok := fun x hx => by
    rw [List.mem_singleton.mp hx]
    exact ⟨h, .nil, Nat.zero_lt_one⟩
  st := List.mem_singleton.mpr rfl
theorem BF.len {n : Nat} {ps : Es} {F : List Nat} {s : Nat} {K : Kv} (B : BF n ps F s K) : K.length ≤ n := by
  have := nodup_le n (keys K) B.nd fun x hx => by
    obtain ⟨y, hy, rfl⟩ := List.mem_map.mp hx
    exact (B.ok y hy).1
  simpa using this
theorem BF.lt {n : Nat} {ps : Es} {F : List Nat} {s : Nat} {K : Kv} (B : BF n ps F s K) {u : Nat} (h : u ∈ keys K) : u < n := by
  obtain ⟨y, hy, rfl⟩ := List.mem_map.mp h
  exact (B.ok y hy).1
theorem BF.add {n : Nat} {ps : Es} {F : List Nat} {s : Nat} {K : Kv} {Ls : List (List Lk)} (B : BF n ps F s K) (hp : EdOk n ps) (L : LinksOk n ps F Ls) {u i v : Nat} {w : Int} {P : Pt} {l : List Lk} (hu : (u, P) ∈ K) (hl : Ls[u]? = some l) (hx : (i, w, v) ∈ l)
    (hv : v ∉ keys K) : BF n ps F s (K ++ [(v, P ++ [(i, w)])]) where
  nd := by
    show ((K ++ [(v, P ++ [(i, w)])]).map (·.1)).Nodup
    rw [List.map_append]
    refine List.nodup_append.mpr ⟨B.nd, List.nodup_cons.mpr ⟨fun h => (nomatch h), List.nodup_nil⟩, fun a ha b hb e => ?_⟩
    subst e
    have := List.mem_singleton.mp hb
    subst this
    exact hv ha
  ok := fun y hy0 => by
    rw [List.length_append]
    rcases List.mem_append.mp hy0 with hy | hy
    · obtain ⟨a, b, c⟩ := B.ok y hy
      exact ⟨a, b, Nat.lt_succ_of_lt c⟩
    · rw [List.mem_singleton.mp hy]
      obtain ⟨a, b, c⟩ := B.ok _ hu
      obtain ⟨hF, st⟩ := L.snd u l (i, w, v) hl hx
      refine ⟨?_, .snoc b hF st, ?_⟩
      · rcases st with ⟨_, e⟩ | ⟨_, e⟩
        · exact (hp.at_ e).2
        · exact (hp.at_ e).1
      · rw [List.length_append]
        exact Nat.succ_lt_succ c
  st := by
    show s ∈ (K ++ _).map (·.1)
    rw [List.map_append]
    exact List.mem_append_left _ B.st
theorem keys_snoc (K : Kv) (x : Nat × Pt) : keys (K ++ [x]) = keys K ++ [x.1] := by
  show (K ++ [x]).map (·.1) = _
  rw [List.map_append]
  rfl
/-- all neighbours of u are found -/
def Cov (Ls : List (List Lk)) (ks : List Nat) (u : Nat) : Prop := ∀ (l : List Lk) (x : Lk), Ls[u]? = some l → x ∈ l → x.2.2 ∈ ks
theorem Cov.mono {Ls : List (List Lk)} {ks ks' : List Nat} {u : Nat} (h : Cov Ls ks u) (m : ∀ k ∈ ks, k ∈ ks') : Cov Ls ks' u := fun l x a b => m _ (h l x a b)
/-- what walk_paths hands back -/
structure PathsOk (n : Nat) (ps : Es) (F : List Nat) (s : Nat) (K : Kv) : Prop where
  bf : BF n ps F s K
  cl : ∀ v, Cn ps F s v → v ∈ keys K
theorem PathsOk.of {n : Nat} {ps : Es} {F : List Nat} {s : Nat} {K : Kv} {Ls : List (List Lk)} (B : BF n ps F s K) (L : LinksOk n ps F Ls) (h : ∀ u ∈ keys K, Cov Ls (keys K) u) : PathsOk n ps F s K where
  bf := B
  cl := fun v c => by
    induction c with
    | rf => exact B.st
    | fw hi e _ ih =>
      obtain ⟨⟨l, a, b⟩, _⟩ := L.cmp _ hi _ _ e
      exact h _ ih l _ a b
    | bw hi e _ ih =>
      obtain ⟨_, l, a, b⟩ := L.cmp _ hi _ _ e
      exact h _ ih l _ a b
theorem PathsOk.iff {n : Nat} {ps : Es} {F : List Nat} {s : Nat} {K : Kv} (p : PathsOk n ps F s K) (v : Nat) : v ∈ keys K ↔ Cn ps F s v :=
  ⟨fun h => by
    obtain ⟨y, hy, rfl⟩ := List.mem_map.mp h
    exact (p.bf.ok y hy).2.1.cn, p.cl v⟩

/-! ### components -/
/-- v is connected with the first of a group -/
def Got (ps : Es) (F : List Nat) (G : List (List Nat)) (v : Nat) : Prop := ∃ g ∈ G, ∃ r rest, g = r :: rest ∧ Cn ps F r v
structure CompOk (n : Nat) (ps : Es) (F : List Nat) (G : List (List Nat)) : Prop where
  hd : ∀ g ∈ G, (∃ r rest, g = r :: rest ∧ r < n) ∧ g.length ≤ n
  cov : ∀ v, v < n → Got ps F G v
  few : G.length ≤ n
theorem Got.mono {ps : Es} {F : List Nat} {G : List (List Nat)} {v : Nat} (h : Got ps F G v) (g : List Nat) : Got ps F (G ++ [g]) v := by
  obtain ⟨g', hg, r⟩ := h
  exact ⟨g', List.mem_append_left _ hg, r⟩
/-- a new group: the sorted keys of the paths from i -/
theorem Got.new {n : Nat} {ps : Es} {F : List Nat} {s : Nat} {K : Kv} (p : PathsOk n ps F s K) (G : List (List Nat)) {g : List Nat} (hg : g.Perm (keys K)) : (∀ v ∈ g, Got ps F (G ++ [g]) v) ∧ s ∈ g ∧ (∃ r rest, g = r :: rest ∧ r < n) ∧ g.length ≤ n := by
  have hs : s ∈ g := hg.mem_iff.mpr p.bf.st
  have hl : g.length ≤ n := by rw [hg.length_eq]; simpa using p.bf.len
  cases g with
  | nil => cases hs
  | cons r rest =>
    have hr : r ∈ keys K := hg.mem_iff.mp List.mem_cons_self
    have cr := (p.iff r).mp hr
    exact ⟨fun v hv => ⟨r :: rest, List.mem_append_right _ (List.mem_singleton.mpr rfl), r, rest, rfl, cr.symm.trans ((p.iff v).mp (hg.mem_iff.mp hv))⟩, hs, ⟨r, rest, rfl, p.bf.lt hr⟩, hl⟩

/-! ### rows and potentials -/
abbrev Rw := Nat × Nat × Int
abbrev psOf (rows : List Rw) : Es := rows.map fun r => (r.1, r.2.1)
def dOf (rows : List Rw) (i : Nat) : Int := match rows[i]? with
  | some r => r.2.2
  | none => 0
theorem psOf_at {rows : List Rw} {i t h : Nat} : (psOf rows)[i]? = some (t, h) ↔ ∃ d, rows[i]? = some (t, h, d) := by
  show (rows.map _)[i]? = _ ↔ _
  rw [List.getElem?_map]
  cases e : rows[i]? with
  | none => simp
  | some r =>
    obtain ⟨a, b, c⟩ := r
    simp only [Option.map_some, Option.some.injEq, Prod.mk.injEq]
    exact ⟨fun ⟨x, y⟩ => ⟨c, x, y, rfl⟩, fun ⟨_, x, y, _⟩ => ⟨x, y⟩⟩
theorem dOf_at {rows : List Rw} {i t h : Nat} {d : Int} (e : rows[i]? = some (t, h, d)) : dOf rows i = d := by unfold dOf; rw [e]
/-- q meets the row -/
def Meets (m : Int) (q : Nat → Int) (r : Rw) : Prop := m ∣ q r.1 - q r.2.1 - r.2.2
def Sol (m : Int) (rows : List Rw) (q : Nat → Int) : Prop := ∀ (i : Nat) (r : Rw), rows[i]? = some r → Meets m q r
/-- no q meets all rows of the walk -/
def Excl (m : Int) (rows : List Rw) (W : Pt) : Prop := ∀ q : Nat → Int, ¬ ∀ x ∈ W, ∀ (r : Rw), rows[x.1]? = some r → Meets m q r
def fn (l : List Int) (v : Nat) : Int := l.getD v 0
theorem fn_at {l : List Int} {v : Nat} {x : Int} (h : l[v]? = some x) : fn l v = x := by unfold fn; rw [List.getD_eq_getElem?_getD, h]; rfl
/-- what levels hands back -/
structure LevOk (m : Int) (n : Nat) (rows : List Rw) (F : List Nat) (f : List Int) : Prop where
  len : f.length = n
  res : ∀ x ∈ f, Res m x
  lev : ∃ q : Nat → Int, (∀ i ∈ F, ∀ (r : Rw), rows[i]? = some r → Meets m q r) ∧ ∀ u v, u < n → Cn (psOf rows) F u v → m ∣ (fn f u - fn f v) - (q u - q v)
theorem Cn.sol {m : Int} {rows : List Rw} {F : List Nat} {q q' : Nat → Int} (h1 : ∀ i ∈ F, ∀ (r : Rw), rows[i]? = some r → Meets m q r) (h2 : ∀ i ∈ F, ∀ (r : Rw), rows[i]? = some r → Meets m q' r) {u v : Nat} (c : Cn (psOf rows) F u v) :
    m ∣ (q u - q v) - (q' u - q' v) := by
  induction c with
  | rf => exact ⟨0, by omega⟩
  | fw hi e _ ih =>
    obtain ⟨d, e⟩ := psOf_at.mp e
    have a1 := h1 _ hi _ e
    have a2 := h2 _ hi _ e
    unfold Meets at a1 a2
    dsimp only at a1 a2
    exact dvd_lin2 ih (Int.dvd_sub a1 a2) (by omega)
  | bw hi e _ ih =>
    obtain ⟨d, e⟩ := psOf_at.mp e
    have a1 := h1 _ hi _ e
    have a2 := h2 _ hi _ e
    unfold Meets at a1 a2
    dsimp only at a1 a2
    exact dvd_lin2' ih (Int.dvd_sub a1 a2) (by omega)
/-- where all rows can be met, the levels meet them -/
theorem LevOk.meets {m : Int} {n : Nat} {rows : List Rw} {F : List Nat} {f : List Int} {q : Nat → Int} (L : LevOk m n rows F f) (hF : ForestOk (psOf rows) F) (hp : EdOk n (psOf rows)) (hq : Sol m rows q) : Sol m rows (fn f) := by
  intro i r hi
  obtain ⟨t, h, d⟩ := r
  obtain ⟨q0, a, b⟩ := L.lev
  have e : (psOf rows)[i]? = some (t, h) := psOf_at.mpr ⟨d, hi⟩
  have c := hF.con i t h e
  have b1 := b t h (hp.at_ e).1 c
  have b2 := Cn.sol a (fun i _ r h => hq i r h) c
  have b3 := hq i _ hi
  unfold Meets at b3 ⊢
  dsimp only at b3 ⊢
  exact dvd_lin2 b1 (dvd_lin2 b2 b3 rfl) (by omega)
/-- a row that the levels do not meet, and the forest's path back: nothing meets them all -/
theorem LevOk.excl {m : Int} {n : Nat} {rows : List Rw} {F : List Nat} {f : List Int} (L : LevOk m n rows F f) (hF : ForestOk (psOf rows) F) (hp : EdOk n (psOf rows)) {i t h : Nat} {d : Int} (hi : rows[i]? = some (t, h, d))
    (bad : ¬ m ∣ fn f t - fn f h - d) {P : Pt} (hP : Wk (psOf rows) F h P t) : Excl m rows ((i, 1) :: P) := by
  intro q hq
  obtain ⟨q0, a, b⟩ := L.lev
  have e : (psOf rows)[i]? = some (t, h) := psOf_at.mpr ⟨d, hi⟩
  have c := hF.con i t h e
  have b1 := b t h (hp.at_ e).1 c
  have w1 := hP.total (m := m) (q := q) (d := dOf rows) fun x hx t' h' e' => by
    obtain ⟨d', e''⟩ := psOf_at.mp e'
    rw [dOf_at e'']
    exact hq x (List.mem_cons_of_mem _ hx) _ e''
  have inF : ∀ {P : Pt} {s v : Nat}, Wk (psOf rows) F s P v → ∀ x ∈ P, x.1 ∈ F := fun {P s v} w => by
    induction w with
    | nil => exact fun _ h => nomatch h
    | snoc _ hi _ ih => exact fun x hx => (List.mem_append.mp hx).elim (ih x) fun z => by rw [List.mem_singleton.mp z]; exact hi
  have w2 := hP.total (m := m) (q := q0) (d := dOf rows) fun x hx t' h' e' => by
    obtain ⟨d', e''⟩ := psOf_at.mp e'
    rw [dOf_at e'']
    exact a x.1 (inF hP x hx) _ e''
  have b3 := hq (i, 1) List.mem_cons_self _ hi
  unfold Meets at b3
  dsimp only at b3
  apply bad
  have z1 := Int.dvd_sub w1 w2
  exact dvd_lin2 b1 (dvd_lin2' b3 z1 rfl) (by omega)

/-! ### the levels' loops -/
/-- between two groups: k groups taken -/
structure LI (m : Int) (n : Nat) (rows : List Rw) (F : List Nat) (q : Nat → Int) (G : List (List Nat)) (k : Nat) (f : List Int) : Prop where
  len : f.length = n
  res : ∀ x ∈ f, Res m x
  root : ∃ root : Nat → Option Nat, (∀ u v, Cn (psOf rows) F u v → root u = root v) ∧ (∀ v r, v < n → root v = some r → m ∣ fn f v - (q v - q r)) ∧ ∀ g ∈ G.take k, ∃ r rest, g = r :: rest ∧ root r ≠ none
theorem LI.start {m : Int} {n : Nat} {rows : List Rw} {F : List Nat} {q : Nat → Int} {G : List (List Nat)} : LI m n rows F q G 0 (List.replicate n 0) where
  len := List.length_replicate
  res := fun x hx h => by rw [List.eq_of_mem_replicate hx]; omega
  root := ⟨fun _ => none, fun _ _ _ => rfl, fun _ _ _ h => (nomatch h), fun _ h => by rw [List.take_zero] at h; cases h⟩
/-- within a group of first node r: j paths taken; f0 ahead of it -/
structure LJ (m : Int) (n : Nat) (q : Nat → Int) (r : Nat) (K : Kv) (f0 : List Int) (j : Nat) (f : List Int) : Prop where
  len : f.length = n
  res : ∀ x ∈ f, Res m x
  new : ∀ v ∈ keys (K.take j), m ∣ fn f v - (q v - q r)
  old : ∀ (v : Nat), v ∉ keys (K.take j) → f[v]? = f0[v]?
theorem LJ.start {m : Int} {n : Nat} {q : Nat → Int} {r : Nat} {K : Kv} {f0 : List Int} (h1 : f0.length = n) (h2 : ∀ x ∈ f0, Res m x) : LJ m n q r K f0 0 f0 :=
  ⟨h1, h2, (fun v h => by rw [List.take_zero] at h; cases h), fun _ _ => rfl⟩
theorem LJ.step {m : Int} {n : Nat} {rows : List Rw} {F : List Nat} {q : Nat → Int} {r : Nat} {K : Kv} {f0 f : List Int} {j v : Nat} {P : Pt} (J : LJ m n q r K f0 j f) (p : PathsOk n (psOf rows) F r K) (hq : ∀ i ∈ F, ∀ (r : Rw), rows[i]? = some r → Meets m q r)
    (e : K[j]? = some (v, P)) : LJ m n q r K f0 (j + 1) (f.set v (red m (0 - total (dOf rows) P))) where
  len := by rw [List.length_set]; exact J.len
  res := fun x hx => by
    rcases List.mem_or_eq_of_mem_set hx with h | h
    · exact J.res x h
    · rw [h]; exact red_res _ _
  new := fun u hu => by
    obtain ⟨hv, hw, _⟩ := p.bf.ok (v, P) (List.mem_of_getElem? e)
    rw [List.take_add_one, e] at hu
    have hu' : u ∈ keys (K.take j) ∨ u = v := by
      rcases List.mem_map.mp hu with ⟨y, hy, rfl⟩
      rcases List.mem_append.mp hy with hy | hy
      · exact .inl (List.mem_map.mpr ⟨y, hy, rfl⟩)
      · right
        rw [List.mem_singleton.mp hy]
    have inF : ∀ {P : Pt} {s v : Nat}, Wk (psOf rows) F s P v → ∀ x ∈ P, x.1 ∈ F := fun {P s v} w => by
      induction w with
      | nil => exact fun _ h => nomatch h
      | snoc _ hi _ ih => exact fun x hx => (List.mem_append.mp hx).elim (ih x) fun z => by rw [List.mem_singleton.mp z]; exact hi
    have w1 := hw.total (m := m) (q := q) (d := dOf rows) fun x hx t' h' e' => by
      obtain ⟨d', e''⟩ := psOf_at.mp e'
      rw [dOf_at e'']
      exact hq x.1 (inF hw x hx) _ e''
    by_cases huv : u = v
    · subst huv
      rw [fn_at (l := f.set u _) (v := u) (x := red m (0 - total (dOf rows) P)) (by rw [List.getElem?_set_self (by rw [J.len]; exact hv)])]
      exact dvd_lin2' (red_dvd m (0 - total (dOf rows) P)) w1 (by dsimp only; omega)
    · have h1 := J.new u (hu'.resolve_right huv)
      have e1 : (f.set v (red m (0 - total (dOf rows) P)))[u]? = f[u]? := List.getElem?_set_ne (fun z => huv z.symm)
      unfold fn at h1 ⊢
      rw [List.getD_eq_getElem?_getD, e1, ← List.getD_eq_getElem?_getD]
      exact h1
  old := fun u hu => by
    have h1 : u ∉ keys (K.take j) ∧ u ≠ v := by
      rw [List.take_add_one, e] at hu
      have e2 : keys (K.take j ++ (some (v, P)).toList) = keys (K.take j) ++ [v] := by
        show (K.take j ++ _).map (·.1) = _
        rw [List.map_append]
        rfl
      rw [e2] at hu
      exact ⟨fun z => hu (List.mem_append_left _ z), fun z => hu (List.mem_append_right _ (List.mem_singleton.mpr z))⟩
    rw [List.getElem?_set_ne (fun z => h1.2 z.symm)]
    exact J.old u h1.1
theorem LI.step {m : Int} {n : Nat} {rows : List Rw} {F : List Nat} {q : Nat → Int} {G : List (List Nat)} {k r : Nat} {rest : List Nat} {K : Kv} {f0 f : List Int} (I : LI m n rows F q G k f0) (e : G[k]? = some (r :: rest)) (p : PathsOk n (psOf rows) F r K)
    (J : LJ m n q r K f0 K.length f) : LI m n rows F q G (k + 1) f where
  len := J.len
  res := J.res
  root := by
    obtain ⟨root, a, b, c⟩ := I.root
    have jn := J.new
    have jo := J.old
    rw [List.take_length] at jn jo
    refine ⟨fun v => if v ∈ keys K then some r else root v, fun u v h => ?_, fun v r' hv hr => ?_, fun g hg => ?_⟩
    · have : u ∈ keys K ↔ v ∈ keys K := by
        rw [p.iff, p.iff]
        exact ⟨fun z => z.trans h, fun z => z.trans h.symm⟩
      dsimp only
      by_cases hu : u ∈ keys K
      · rw [if_pos hu, if_pos (this.mp hu)]
      · rw [if_neg hu, if_neg fun z => hu (this.mpr z)]
        exact a u v h
    · dsimp only at hr
      by_cases hk : v ∈ keys K
      · rw [if_pos hk] at hr
        cases hr
        exact jn v hk
      · rw [if_neg hk] at hr
        have h1 := b v r' hv hr
        unfold fn at h1 ⊢
        rw [List.getD_eq_getElem?_getD, jo v hk, ← List.getD_eq_getElem?_getD]
        exact h1
    · rw [List.take_add_one, e] at hg
      rcases List.mem_append.mp hg with hg | hg
      · obtain ⟨r', rest', e1, e2⟩ := c g hg
        refine ⟨r', rest', e1, ?_⟩
        dsimp only
        split
        · exact fun z => nomatch z
        · exact e2
      · have := List.mem_singleton.mp hg
        subst this
        refine ⟨r, rest, rfl, ?_⟩
        dsimp only
        rw [if_pos p.bf.st]
        exact fun z => nomatch z
theorem LI.done {m : Int} {n : Nat} {rows : List Rw} {F : List Nat} {q : Nat → Int} {G : List (List Nat)} {f : List Int} (I : LI m n rows F q G G.length f) (C : CompOk n (psOf rows) F G) (hp : EdOk n (psOf rows)) (hq : ∀ i ∈ F, ∀ (r : Rw), rows[i]? = some r → Meets m q r) :
    LevOk m n rows F f where
  len := I.len
  res := I.res
  lev := by
    refine ⟨q, hq, fun u v hu c => ?_⟩
    obtain ⟨root, a, b, z⟩ := I.root
    rw [List.take_length] at z
    obtain ⟨g, hg, r, rest, e, cr⟩ := C.cov u hu
    obtain ⟨r', rest', e', nr⟩ := z g hg
    rw [e] at e'
    cases e'
    have hv : v < n := by
      clear cr e z
      induction c with
      | rf => exact hu
      | fw _ e _ _ => exact (hp.at_ e).2
      | bw _ e _ _ => exact (hp.at_ e).1
    cases q1 : root r with
    | none => exact absurd q1 nr
    | some x =>
      have e1 : root u = some x := (a r u cr).symm.trans q1
      have e2 : root v = some x := (a u v c).symm.trans e1
      exact dvd_lin2' (b u x hu e1) (b v x hv e2) (by omega)
theorem levels_q {rows : List Rw} {F : List Nat} (m : Int) (hF : ForestOk (psOf rows) F) : ∃ q : Nat → Int, ∀ i ∈ F, ∀ (r : Rw), rows[i]? = some r → Meets m q r := by
  obtain ⟨q, hq⟩ := hF.sol (dOf rows)
  refine ⟨q, fun i hi r hr => ?_⟩
  obtain ⟨t, h, d⟩ := r
  have e := hq i hi t h (psOf_at.mpr ⟨d, hr⟩)
  rw [dOf_at hr] at e
  exact ⟨0, by dsimp only; omega⟩
end Tt
end
section
set_option maxHeartbeats 4000000
namespace Tt
open PySem PySem.Spec PyProof.Rows L2
/-! ### how data stand in the heap -/
theorem Same.new {H : Hp} {p : Addr} {o : HO} (h : H p = none) : Same H (upd H p o) := fun b u e => by
  rw [upd_ne (ne_of_none e h)]
  exact e
/-- an address that H does not know may change -/
theorem Same.mut {H H' : Hp} {p : Addr} {o : HO} (e : Same H H') (h : H p = none) : Same H (upd H' p o) := fun b u hb => by
  rw [upd_ne (ne_of_none hb h)]
  exact e b u hb
abbrev Rel (α : Type) := Hp → V → α → Prop
def Mono {α : Type} (R : Rel α) : Prop := ∀ (H H' : Hp) (v : V) (x : α), Same H H' → R H v x → R H' v x
def TupAt (H : Hp) (v : V) (ys : List V) : Prop := ∃ t, v = .ref t ∧ H t = some (.tup ys)
def ListAt {α : Type} (R : Rel α) (H : Hp) (a : Addr) (l : List α) : Prop := ∃ xs, H a = some (.lst xs) ∧ Paired (R H) xs l
def LstR {α : Type} (R : Rel α) : Rel (List α) := fun H v l => ∃ a, v = .ref a ∧ ListAt R H a l
def IntR : Rel Int := fun _ v i => v = .int i
def NatR : Rel Nat := fun _ v i => v = .int (i : Int)
def PairR : Rel (Nat × Nat) := fun H v e => TupAt H v [.int e.1, .int e.2]
def RowR : Rel Rw := fun H v r => TupAt H v [.int r.1, .int r.2.1, .int r.2.2]
def StepR : Rel (Nat × Int) := fun H v s => TupAt H v [.int s.1, .int s.2]
def LinkR : Rel Lk := fun H v l => TupAt H v [.int l.1, .int l.2.1, .int l.2.2]
theorem TupAt.same {H H' : Hp} {v : V} {ys : List V} (e : Same H H') (h : TupAt H v ys) : TupAt H' v ys := by
  obtain ⟨t, rfl, h⟩ := h
  exact ⟨t, rfl, e t _ h⟩
theorem m_Int : Mono IntR := fun _ _ _ _ _ h => h
theorem m_Nat : Mono NatR := fun _ _ _ _ _ h => h
theorem m_Pair : Mono PairR := fun _ _ _ _ e h => TupAt.same e h
theorem m_Row : Mono RowR := fun _ _ _ _ e h => TupAt.same e h
theorem m_Step : Mono StepR := fun _ _ _ _ e h => TupAt.same e h
theorem m_Link : Mono LinkR := fun _ _ _ _ e h => TupAt.same e h
theorem Paired.mono {α : Type} {R : Rel α} (m : Mono R) {H H' : Hp} (e : Same H H') {xs : List V} {l : List α} (h : Paired (R H) xs l) : Paired (R H') xs l := Paired.mapP h fun v x q => m H H' v x e q
theorem ListAt.same {α : Type} {R : Rel α} (m : Mono R) {H H' : Hp} {a : Addr} {l : List α} (e : Same H H') (h : ListAt R H a l) : ListAt R H' a l := by
  obtain ⟨xs, h1, h2⟩ := h
  exact ⟨xs, e a _ h1, Paired.mono m e h2⟩
theorem m_Lst {α : Type} {R : Rel α} (m : Mono R) : Mono (LstR R) := fun _ _ _ _ e ⟨a, h, q⟩ => ⟨a, h, q.same m e⟩
theorem Paired.at_ {α β : Type} {F : α → β → Prop} : ∀ {xs : List α} {l : List β} {i : Nat} {d : β}, Paired F xs l → l[i]? = some d → ∃ x, xs[i]? = some x ∧ F x d
  | _, _, _, _, .nil, h => by simp at h
  | _, _, 0, _, .cons r _, h => by simp at h; subst h; exact ⟨_, rfl, r⟩
  | _, _, i + 1, _, .cons _ t, h => by
    obtain ⟨x, h1, h2⟩ := Paired.at_ (i := i) t (by simpa using h)
    exact ⟨x, by simpa using h1, h2⟩
theorem Paired.at2 {α β : Type} {F : α → β → Prop} : ∀ {xs : List α} {l : List β} {i : Nat} {x : α}, Paired F xs l → xs[i]? = some x → ∃ d, l[i]? = some d ∧ F x d
  | _, _, _, _, .nil, h => by simp at h
  | _, _, 0, _, .cons r _, h => by simp at h; subst h; exact ⟨_, rfl, r⟩
  | _, _, i + 1, _, .cons _ t, h => by
    obtain ⟨d, h1, h2⟩ := Paired.at2 (i := i) t (by simpa using h)
    exact ⟨d, by simpa using h1, h2⟩
theorem Paired.app {α β : Type} {F : α → β → Prop} : ∀ {xs ys : List α} {l k : List β}, Paired F xs l → Paired F ys k → Paired F (xs ++ ys) (l ++ k)
  | _, _, _, _, .nil, s => s
  | _, _, _, _, .cons r t, s => .cons r (Paired.app t s)
theorem Paired.snoc {α β : Type} {F : α → β → Prop} {xs : List α} {l : List β} {x : α} {d : β} (h : Paired F xs l) (r : F x d) : Paired F (xs ++ [x]) (l ++ [d]) := Paired.app h (.cons r .nil)
theorem Paired.set_ {α β : Type} {F : α → β → Prop} {x : α} {d : β} (r : F x d) : ∀ {xs : List α} {l : List β} (i : Nat), Paired F xs l → Paired F (xs.set i x) (l.set i d)
  | _, _, _, .nil => .nil
  | _, _, 0, .cons _ t => .cons r t
  | _, _, i + 1, .cons q t => .cons q (Paired.set_ r i t)
theorem Paired.take_ {α β : Type} {F : α → β → Prop} : ∀ {xs : List α} {l : List β} (n : Nat), Paired F xs l → Paired F (xs.take n) (l.take n)
  | _, _, 0, _ => .nil
  | _, _, _ + 1, .nil => .nil
  | _, _, n + 1, .cons r t => .cons r (Paired.take_ n t)
theorem Paired.drop_ {α β : Type} {F : α → β → Prop} : ∀ {xs : List α} {l : List β} (n : Nat), Paired F xs l → Paired F (xs.drop n) (l.drop n)
  | _, _, 0, r => r
  | _, _, _ + 1, .nil => .nil
  | _, _, n + 1, .cons _ t => Paired.drop_ n t
/-- a list of ints -/
theorem ints_of : ∀ {xs : List V} {l : List Int} {H : Hp}, Paired (IntR H) xs l → xs = l.map V.int
  | _, _, _, .nil => rfl
  | _, _, _, .cons r t => by rw [List.map_cons, ← ints_of t, show _ = V.int _ from r]
theorem ints_to (H : Hp) : ∀ l : List Int, Paired (IntR H) (l.map V.int) l
  | [] => .nil
  | i :: l => .cons rfl (ints_to H l)
theorem nats_of : ∀ {xs : List V} {l : List Nat} {H : Hp}, Paired (NatR H) xs l → xs = l.map fun n : Nat => V.int (n : Int)
  | _, _, _, .nil => rfl
  | _, _, _, .cons r t => by rw [List.map_cons, ← nats_of t, show _ = V.int _ from r]
theorem nats_to (H : Hp) : ∀ l : List Nat, Paired (NatR H) (l.map fun n : Nat => V.int (n : Int)) l
  | [] => .nil
  | i :: l => .cons rfl (nats_to H l)
theorem ListAt.ints {H : Hp} {a : Addr} {l : List Int} (h : ListAt IntR H a l) : H a = some (.lst (l.map V.int)) := by
  obtain ⟨xs, h1, h2⟩ := h
  rw [h1, ints_of h2]
theorem ListAt.of_ints {H : Hp} {a : Addr} {l : List Int} (h : H a = some (.lst (l.map V.int))) : ListAt IntR H a l := ⟨_, h, ints_to H l⟩
theorem ListAt.nats {H : Hp} {a : Addr} {l : List Nat} (h : ListAt NatR H a l) : H a = some (.lst (l.map fun n : Nat => V.int (n : Int))) := by
  obtain ⟨xs, h1, h2⟩ := h
  rw [h1, nats_of h2]
theorem ListAt.of_nats {H : Hp} {a : Addr} {l : List Nat} (h : H a = some (.lst (l.map fun n : Nat => V.int (n : Int)))) : ListAt NatR H a l := ⟨_, h, nats_to H l⟩
theorem sz (n : Nat) (h : n ≤ 100000 := by omega) : n ≤ sizeLine := Nat.le_trans h (by decide)
theorem szl (n : Nat) (h : n < 100000 := by omega) : n < sizeLine := Nat.lt_of_lt_of_le h (by decide)
section
variable {P : Program} {w : World} {K : PySem.W.Frag} {mg : Str → Option Value} {base : Heap}
def sp_reduced_number : Sp := fun vs H Q _ => ∃ x m : Int, vs = [.int x, .int m] ∧ Q (.int (red m x)) H
theorem ok_reduced_number (T : Tx K mg) : FnOk P w K mg base CX0 1 T.reduced_number.f T.reduced_number.fd N_reduced_number_ps sp_reduced_number := by
  refine T.reduced_number.F.ok sc_reduced_number (fun vs H Q E h => ?_) (fun cdv A outer s H vs Q E hr h => ?_)
  · obtain ⟨x, m, rfl, _⟩ := h
    rfl
  · obtain ⟨x, m, rfl, k⟩ := h
    refine ⟨_, PSs.nox (pss_one (ps_ret (pe_ifExp (pt_cmpR op_gt (pv 1) pe_int (nomark _)) (pe_op op_mod (pv 0) (pv 1)) (pv 0)))), ?_⟩
    refine ⟨_, rfl, _, _, rfl, rfl, _, rfl, ?_⟩
    refine ite2 (fun c => ?_) (fun c => ?_)
    · have c : 0 < m := of_decide_eq_true c
      refine ⟨_, rfl, _, rfl, _, _, rfl, rfl, c, ?_⟩
      have e : red m x = x % m := if_pos c
      rw [e] at k
      exact k
    · have c : ¬ 0 < m := fun z => c (decide_eq_true z)
      have e : red m x = x := if_neg c
      rw [e] at k
      exact ⟨_, rfl, k⟩
end
end Tt
end
section
set_option maxHeartbeats 4000000
namespace Tt
open PySem PySem.Spec PyProof.Rows L2
section
variable {X : Cx}
/-! ### len(x), x an instance with a __len__ of the text -/
def rLenI (C : Addr) (sp : Sp) (E : XK) : List V → Hp → VK → Prop := fun xs H Q => ∃ (a dx : Addr) (fs : List (Str × V)), xs = [.ref a] ∧ H a = some (.ins C dx fs) ∧ sp [.ref a] H (fun v H' => ∃ n : Int, v = .int n ∧ 0 ≤ n ∧ n < 2 ^ 63 ∧ Q (.int n) H') E
theorem cr_lenI {CX : CXT} {k : Nat} {f C : Addr} {fd : FuncData} {ps : List Str} {sp : Sp} {E : XK} (F : FnOk X.prog X.w X.K X.mg X.base CX k f fd ps sp) (m : Meth X.K C "__len__" f) (hb : Binds X.K fd ps []) (hx : Passes CX X E) (hr : Room (k + 1) X.A) :
    CallR X (.builtin "len") (rLenI C sp E) := by
  intro pins s σ H xs us Q I r h
  obtain ⟨a, dx, fs, rfl, ha, hsp⟩ := h
  obtain ⟨u, rfl, ru⟩ := vals1 r
  cases (show u = Value.ref a from ru)
  obtain ⟨mA, J, _⟩ := ins_get I.hok ha
  obtain ⟨od, J, _⟩ := J.look
  obtain ⟨_, hF⟩ := I.fr
  refine PySem.W.len_K hF I.ok.mod.kin J m.at_ m.fn ?_
  have e0 : Env0 X.prog X.w X.K X.mg X.base X.A.in1 X.stack s H := by
    have e := I.env0
    exact ⟨e.frames, e.mod, e.bs, e.bsz, e.funs, e.frf, e.hok, e.bare⟩
  have hl := F.len _ _ _ _ hsp
  have b1 := hb s [.ref a] I.kIn (by simpa using hl)
  refine wpAny_call (codeAny_mono (F.run X.A.in1 X.stack s H ⟨[.ref a], []⟩ [.ref a] [.ref a] _ E hr.in1 e0 (by simpa using b1) (.cons rfl .nil) hsp) fun r s' hq => ?_)
  cases r with
  | error e => exact hx pins σ H s e s' I hq
  | ok fl =>
    cases fl with
    | ret u =>
      obtain ⟨z, H', I', rz, n, ez, h0, h1, q⟩ := I.after hq
      subst ez
      obtain ⟨t, rfl⟩ := rz
      exact ⟨⟨h0, h1⟩, .int n, H', I'.tok _, ⟨_, rfl⟩, q⟩
    | next => exact False.elim hq
    | brk => exact False.elim hq
    | cont => exact False.elim hq
/-! ### a new object, then locked -/
def tFrz (t : TE) : TE := fun σ H Q => t σ H fun x H1 => ∃ d u, x = .ref d ∧ H1 d = some u ∧ Mut (some u) ∧ ∀ od, Q x (upd H1 d (.frz od u))
theorem pe_frz {e : Expr} {t : TE} (h : PE X e t) : PE X e (tFrz t) := by
  refine ⟨fun pins s σ H Q I hw => ?_⟩
  refine thn (h.run pins s σ H _ I hw) fun v s1 ⟨x, H1, I1, r1, d, u, ex, hd, mu, q⟩ => ?_
  obtain ⟨od, I2⟩ := I1.lock hd mu
  exact ⟨x, _, I2, r1, q od⟩
/-! ### d.update(e), e another dict -/
def rDUpd : V → List V → Hp → VK → Prop := fun x xs H Q => ∃ (d o : Addr) (kvs more : List (Key × V)), x = .ref d ∧ xs = [.ref o] ∧ d ≠ o ∧ H d = some (.dK kvs) ∧ H o = some (.dK more) ∧ kvs.length + more.length ≤ sizeLine ∧
  Q .non (upd H d (.dK (mergeK kvs more)))
theorem mt_dupd : MtR X "dict.update" rDUpd := by
  intro pins s σ H x xs v us Q I rx rxs h
  obtain ⟨d, o, kvs, more, rfl, rfl, hdo, h1, h2, hl, q⟩ := h
  cases rx
  obtain ⟨u, rfl, ru⟩ := vals1 rxs
  cases (show u = Value.ref o from ru)
  obtain ⟨z, hd, vs, rel, dd⟩ := dk_of I.hok h1
  obtain ⟨z2, hd2, vs2, rel2, dd2⟩ := dk_of I.hok h2
  refine call_meetsIn PySem.F.slot_dict_update dd.typeIs PySem.F.entry_dict_update (PySem.F.args_dict_update_2 _ _) (PySem.meets_dict_update (mixKind X.prog X.w) d o hdo hd2) ⟨vs, vs2, dd, dd2, by rw [← rel.length, ← rel2.length]; exact hl, fun h' a1 _ hs => ?_⟩
  have he : ∃ q, h'.get? d = some q := let ⟨q, _, _, hq, _⟩ := a1; ⟨q, hq⟩
  have hz : (mergeK kvs more).length ≤ sizeLine := Nat.le_trans (length_mergeK more kvs) hl
  exact ⟨.non, _, d_write (t' := s.toks) I (by rw [h1]; exact True.intro) hs he (dk_new hz hd (rel2.merge rel) a1), rfl, q⟩
/-! ### len(set(xs)), xs a list of ints -/
def tLenSetL (K : PySem.W.Frag) (ta : TE) : TE := fun σ H Q => ta σ H fun x H1 => ∃ (l : Addr) (ns : List Int), x = .ref l ∧ SqL K H1 l (ns.map V.int) ∧ ns.length ≤ 1000 ∧ Q (.int ((firstMet (fun i => ns.getD i 0) ns.length).length : Nat)) H1
theorem firstMet_le (f : Nat → Int) : ∀ n, (firstMet f n).length ≤ n
  | 0 => Nat.le_refl _
  | n + 1 => by
    have := firstMet_le f n
    rw [firstMet_succ]
    unfold step_dedup
    split
    · omega
    · rw [List.length_append]; simp; omega
theorem pe_lenSetL {a : Expr} {ta : TE} {p p2 q pos : Pos} (hg : Gl X "len") (hm : X.mg "len" = none) (hg2 : Gl X "set") (hm2 : X.mg "set" = none) (ha : PE X a ta) (hc : X.calm = true := by rfl)
    (na : starEach [a] X.env = (false, eval a X.env) :: starEach [] X.env := by rfl) : PE X (.Call (.Name "len" p) [.Call (.Name "set" p2) [a] [] q] [] pos) (tLenSetL X.K ta) := by
  refine ⟨fun pins s σ H Q I h => Call_ (ld_blt I hg hm boot_len ?_)⟩
  refine callWith_builtin1 (args_cons (Call_ (ld_blt I hg2 hm2 boot_set ?_)) rfl) rfl rfl
  refine callWith_type1 (args_cons (thn (ha.run pins s σ H _ I h) fun v s1 h1 => args_nil ?_) na) na rfl
  obtain ⟨x, H1, I1, r1, l, ns, ex, hq, hl, q1⟩ := h1
  subst ex
  cases r1
  obtain ⟨its, r, pl, _⟩ := I1.list hq
  have hlen : its.toArray.size = ns.length := by
    have := r.length
    rw [List.length_map] at this
    rw [List.size_toArray, this]
  have hb : ns.length + 1 < scanBound := by unfold scanBound; omega
  have hf0 := firstMet_le (fun i => ns.getD i 0) ns.length
  refine call_set_list (I1.ok.hd hc) pl.isList (by simpa using RZ.intsAre_vals r) (by rw [hlen]; exact hb) fun h' tk hS hk => args_nil ?_
  rw [hlen] at hS
  obtain ⟨o, es, ep, t, ho, hex, hd, _, _, _, hf, hn⟩ := hS
  have I2 : Inv X pins σ H1 { s1 with heap := h', toks := tk } := I1.kept fun b o e => hk b o (Heap.lt_size e) e
  exact call_len_set ho hex hd hf (by rw [hn]; omega) ⟨.int _, H1, I2.tok _, ⟨_, by rw [hn]⟩, q1⟩
/-! ### rules with the written part named (within a comprehension) -/
theorem ix_listB {K : PySem.W.Frag} (h : X.K = K) : IxR X (rIxL K) := by subst h; exact ix_list
theorem ix_tupB {K : PySem.W.Frag} (h : X.K = K) : IxR X (rIxT K) := by subst h; exact ix_tup
theorem op_catTB {K : PySem.W.Frag} (h : X.K = K) : OpR X (binaryOp .Add) (rCatT K) := by subst h; exact op_catT
theorem op_in_seqB {K : PySem.W.Frag} (h : X.K = K) : OpR X (compareOp .In) (rIn K false) := by subst h; exact op_in_seq
theorem sl_tupB {K : PySem.W.Frag} (h : X.K = K) : SlR X (rSlT K) := by subst h; exact sl_tup
theorem call_isiB {K : PySem.W.Frag} (h : X.K = K) : CallR X (.builtin "isinstance") (rIsi K) := by subst h; exact call_isi
def rLenB (K : PySem.W.Frag) : List V → Hp → VK → Prop := fun xs H Q => ∃ p ys, xs = [.ref p] ∧ (SqL K H p ys ∨ SqT K H p ys) ∧ Q (.int ys.length) H
theorem call_len_seqB {K : PySem.W.Frag} (h : X.K = K) : CallR X (.builtin "len") (rLenB K) := by subst h; exact call_len_seq
def rLstB (K : PySem.W.Frag) : List V → Hp → VK → Prop := fun xs H Q => ∃ p ys, xs = [.ref p] ∧ (SqL K H p ys ∨ SqT K H p ys) ∧ ∀ l, H l = none → Q (.ref l) (upd H l (.lst ys))
theorem call_list_ofB {K : PySem.W.Frag} (h : X.K = K) : CallR X (.type "list") (rLstB K) := by subst h; exact call_list_of
theorem pe_fldB {K : PySem.W.Frag} (h : X.K = K) {e : Expr} {f : Str} {pos : Pos} {ta : TE} (he : PE X e ta) (hb : attributeBase e f X.env (eval e X.env) = eval e X.env) : PE X (.Attribute e f pos) (tFld K ta f) := by subst h; exact pe_fld he hb
theorem pi_listB {K : PySem.W.Frag} (h : X.K = K) {tg l : Expr} {tl : TE} (hl : PE X l tl) : PI X tg l (iList K tl) := by subst h; exact pi_list hl
theorem pg_tupB {K : PySem.W.Frag} (h : X.K = K) {es : List Expr} {k : Nat} {pos : Pos} {t : TGs} {n : Nat} (hc : X.calm = true) (hp : PGs X es t)
    (hn : (assignEach es X.env).length = n := by rfl) (hst : (assignEach es X.env).findIdx? (·.1) = none := by rfl) : PG X (.Tuple es k pos) (gTup K n t) := by subst h; exact pg_tup hc hp hn hst
end
end Tt
end
section
set_option maxHeartbeats 4000000
namespace Tt
open PySem PySem.Spec PyProof.Rows L2
section
variable {P : Program} {w : World} {A : Around} {E : Value → Shared → Prop} {s : Shared}
set_option maxRecDepth 100000 in
set_option maxHeartbeats 3200000 in
theorem call_set_listI {l : Addr} {items : Array Value} (ns : List Int) {Q : Value → Shared → Prop} (hh : A.handled = none) (hl : s.heap.IsList l items) (hit : IntsAre items.toList ns) (hb : ns.length + 1 < scanBound)
    (h : ∀ (h' : Heap) (tk c : Nat), SetR w h' s.heap.objs.size (fun j => decide (j ∈ ns)) c → c ≤ ns.length → (∀ b o, s.heap.get? b = some o → h'.get? b = some o) → Q (.ref s.heap.objs.size) { s with heap := h', toks := tk }) :
    wpAny (model P w) A (call (.type "set") [.ref l]) Q E s := by
  have hisz : items.size = ns.length := by
    have q := IntsAre.length hit
    rw [Array.length_toList] at q
    exact q
  obtain ⟨c, tl, hmro⟩ := F.called_set.mro
  have hmade := F.called_set.made
  have hsub := F.called_set.sub
  refine wpAny_call (codeAny_of_tree ?_)
  show wpAny _ _ (callAny (.type "set") _) _ _ _
  refine wpAny_pure ⟨Code.quiet_builtin _ (by decide +kernel), codeAny_builtin F.entry_type_call ?_⟩
  rw [Around.under_plain (weight_type_call_type "set" [.ref l] []) rfl]
  have h1 := F.called_set.notType
  have h2 := F.called_set.canCreate
  have hct := F.typeCall_set_1 (.ref l)
  repeat (any_goals (first | assumption | wp_step))

  refine codeAny_mono (code_set_led1 (.ref l) (E := E) (Q₁ := fun obj s₁ => obj = .ref s.heap.objs.size ∧ s₁ = { s with heap := s.heap.push { cls := .type "set", dict := none, data := .set #[] 0 (.fresh 0 0 (!w.params.followText "set-order")) } }) ⟨rfl, rfl⟩) fun r s₁ hr => ?_
  cases r with
  | error e => exact hr
  | ok fl =>
    cases fl with
    | ret obj =>
      obtain ⟨rfl, rfl⟩ := hr
      have hS : (s.heap.push { cls := .type "set", dict := none, data := .set #[] 0 (.fresh 0 0 (!w.params.followText "set-order")) }).get? s.heap.objs.size = some { cls := .type "set", dict := none, data := .set #[] 0 (.fresh 0 0 (!w.params.followText "set-order")) } := Heap.get?_push_size _ rfl
      have hT : Shared.TypeIs { s with heap := s.heap.push { cls := .type "set", dict := none, data := .set #[] 0 (.fresh 0 0 (!w.params.followText "set-order")) } } (.ref s.heap.objs.size) "set" := ⟨_, hS, rfl⟩
      have hli := F.called_set.init.lookup
      have hbi := F.called_set.init.bind (.ref s.heap.objs.size)
      repeat (any_goals (first | assumption | wp_step))

      refine codeAny_mono (codeAny_call_builtin (R := wants (fun r s₂ => r = .none ∧ ∃ h' tk c, s₂ = { s with heap := h', toks := tk } ∧ SetR w h' s.heap.objs.size (fun j => decide (j ∈ ns)) c ∧ c ≤ ns.length ∧
          (∀ b o, s.heap.get? b = some o → h'.get? b = some o)) E) F.called_set.init.plain F.entry_set_init (check_set_init_1 hT ?_)) fun r₂ s₂ hr₂ => ?_
      · obtain ⟨ol, hol, hcl, nl, hdl⟩ := hl
        obtain ⟨ocls, odict, odata, oslots⟩ := ol
        simp only at hcl hdl
        subst hcl; subst hdl
        have hol' : (s.heap.push { cls := .type "set", dict := none, data := .set #[] 0 (.fresh 0 0 (!w.params.followText "set-order")) }).get? l = some { cls := .type "list", dict := odict, data := .seq items nl, slots := oslots } := Heap.get?_push_of_some _ hol
        have hsls := F.sub_list_set
        have hslf := F.sub_list_frozenset
        have hne : (Value.type "list" == Value.type "dict") = false := by decide
        have hl1 : (s.heap.push { cls := .type "set", dict := none, data := .set #[] 0 (.fresh 0 0 (!w.params.followText "set-order")) }).IsList l items := ⟨_, hol', rfl, nl, rfl⟩
        unfold Builtin.«set.__init__» noKeywords Builtin.Frozenset.updateFrom
        generalize hPI : pyIter = PI
        wp_walk
        subst hPI

        refine wpAny_pyIter_list hl1 ?_
        refine wpAny_bind (wpAny_runValue ?_)
        have hlS : l < s.heap.objs.size := Heap.lt_size hol
        have hh3 : A.in1.in1.in1.handled = none := by simp [hh]
        have hz1 : (s.heap.push { cls := .type "set", dict := none, data := .set #[] 0 (.fresh 0 0 (!w.params.followText "set-order")) }).objs.size = s.heap.objs.size + 1 := Heap.size_push ..
        have hneI : l ≠ (s.heap.push { cls := .type "set", dict := none, data := .set #[] 0 (.fresh 0 0 (!w.params.followText "set-order")) }).objs.size := by
          rw [Heap.size_push]; exact Nat.ne_of_lt (Nat.lt_succ_of_lt hlS)
        have hSf : s.heap.objs.size ∉ [(s.heap.push { cls := .type "set", dict := none, data := .set #[] 0 (.fresh 0 0 (!w.params.followText "set-order")) }).objs.size, l] := by
          rw [Heap.size_push]; simp only [List.mem_cons, List.mem_singleton, List.not_mem_nil, or_false, not_or]
          exact ⟨Nat.ne_of_lt (Nat.lt_succ_self _), Nat.ne_of_gt hlS⟩
        have hval : ∀ (i : Nat) (v : Value), items[i]? = some v → ∃ k t, ns[i]? = some k ∧ v = .int k t := fun i v hv => by
          have hi : i < ns.length := by rw [← hisz]; exact (Array.getElem?_eq_some_iff.mp hv).1
          obtain ⟨t, e⟩ := PyProof.Rows.IntsAre.int_at hit i v (by rw [Array.getElem?_toList]; exact hv)
          refine ⟨ns[i], t, List.getElem?_eq_getElem hi, ?_⟩
          rw [e, List.getD_eq_getElem?_getD, List.getElem?_eq_getElem hi] <;> rfl
        refine set_update_ints ((Walks.list hh3 _ l hneI items).toS) s.heap.objs.size
          hSf ns hisz hb hval (items.size - 0) 0 _ (by omega) (Nat.zero_le _)
          ⟨⟨_, Heap.get?_push_size _ rfl, rfl, rfl⟩, (hl1.push _)⟩ ?hS0 ?hR
        case hS0 =>
          have hget : ((s.heap.push { cls := .type "set", dict := none, data := .set #[] 0 (.fresh 0 0 (!w.params.followText "set-order")) }).push { cls := .type "list_iterator", data := .fields #[.ref l, .int 0 0] }).get? s.heap.objs.size
              = some { cls := .type "set", dict := none, data := .set #[] 0 (.fresh 0 0 (!w.params.followText "set-order")) } := Heap.get?_push_of_some _ hS
          exact ⟨0, Nat.le_refl 0, setR_new_at hget⟩
        case hR =>
          intro s' c' hm hc' hS'
          obtain ⟨h', g2, d', tk', os'⟩ := s'
          have eg : g2 = s.gens := hm.gens
          have ed : d' = s.drawn := hm.drawn
          have eo : os' = s.os := hm.os
          subst eg; subst ed; subst eo
          show wpAny _ _ _ _ _ _
          refine wpAny_pure ?_
          show wpAny _ _ (ret Value.none) _ _ _
          rw [hisz] at hc'
          refine wpAny_pure ⟨rfl, h', tk', c', rfl, hS', hc', fun b o e => ?_⟩
          have hb0 : b < s.heap.objs.size := Heap.lt_size e
          have hb1 : b ≠ s.heap.objs.size := Nat.ne_of_lt hb0
          have hb2 : b ≠ (s.heap.push { cls := .type "set", dict := none, data := .set #[] 0 (.fresh 0 0 (!w.params.followText "set-order")) }).objs.size := by
            rw [Heap.size_push]; exact Nat.ne_of_lt (Nat.lt_succ_of_lt hb0)
          exact hm.heap b o (by simp only [List.mem_cons, List.mem_singleton, List.not_mem_nil, or_false, not_or]; exact ⟨hb1, hb2⟩) (Heap.get?_push_of_some _ (Heap.get?_push_of_some _ e))

      · cases r₂ with
        | error e => exact hr₂
        | ok fl₂ =>
          cases fl₂ with
          | ret r =>
            obtain ⟨rfl, h', tk, c', rfl, hS', hc', hk'⟩ := hr₂
            repeat (any_goals (first | assumption | wp_step))
            exact h _ _ _ hS' hc' hk'
          | _ => exact hr₂.elim
    | _ => exact hr.elim

end
section
variable {X : Cx}
/-! ### set(xs) of a list of ints -/
def rSetL (K : PySem.W.Frag) (w : World) : List V → Hp → VK → Prop := fun xs H Q => ∃ (l : Addr) (ns : List Int), xs = [.ref l] ∧ SqL K H l (ns.map V.int) ∧ ns.length ≤ 1000 ∧ ∀ (a : Addr) (n : Nat), H a = none → n ≤ ns.length → Q (.ref a) (upd H a (SetO w a (fun j => decide (j ∈ ns)) n))
theorem cr_setL (hc : X.calm = true) : CallR X (.type "set") (rSetL X.K X.w) := by
  intro pins s σ H xs us Q I r h
  obtain ⟨l, ns, rfl, hq, hl, q⟩ := h
  rw [Vals.ref1 r]
  obtain ⟨its, rv, pl, hz⟩ := I.list hq
  have hi := rv.ints
  refine call_set_listI (P := X.prog) (w := X.w) ns (I.ok.hd hc) pl.isList (by simpa using hi) (by unfold scanBound; omega) fun h' tk c R hcn k => ?_
  exact ⟨.ref s.heap.objs.size, upd H s.heap.objs.size (SetO X.w s.heap.objs.size (fun j => decide (j ∈ ns)) c), I.laid (t' := tk) k (Nat.le_refl _) (setO_new R), rfl, q _ c (I.hok.fresh (Nat.le_refl _)) hcn⟩
/-! ### sorted(()) -/
def rSortedT0 (K : PySem.W.Frag) : List V → Hp → VK → Prop := fun xs H Q => ∃ t, xs = [.ref t] ∧ SqT K H t [] ∧ ∀ p, H p = none → Q (.ref p) (upd H p (.lst []))
end
section
variable {prog : Program} {w : World} {A : Around} {env : Env} {E : Value → Shared → Prop} {R : Result → Shared → Prop} {s : Shared}
variable {X : Cx}
open PpSet
/-- {elt for target in iter if ..}: D the new set, D0 the empty one, add its step -/
def tScG (D0 : Addr → HO) (add : Addr → V → Hp → (Hp → Prop) → Prop) (wi : TI) (g : TG) (tt : TT) (te : TE) (vs : List Nat) : TE := fun σ H Q => wi σ H fun J H1 => ∀ D, H1 D = none → ∃ W : Nat → Nat → Hp → Prop, (∃ m, W 0 m (upd H1 D (D0 D))) ∧ ∀ i m H, W i m H →
  (J.stop i H ∧ Q (.ref D) H) ∨ (J.go i H ∧ ∃ Nx : Hp → Prop, (∀ H', Nx H' → ∃ m', m' < m ∧ W (i + 1) m' H') ∧ ∀ x H', J.yld i H x H' → g x (wipe σ vs) H' fun σ2 H2 => wipe σ2 vs = wipe σ vs ∧ tt σ2 H2 fun b H3 =>
    if b = true then te σ2 H3 fun y H4 => add D y H4 Nx else Nx H3)
/-- the step of an own kind of set -/
def AddR (X : Cx) (add : Addr → V → Hp → (Hp → Prop) → Prop) : Prop := ∀ (pins : List (Addr × Obj)) (σ : L2.St) (H : Hp) (s : Shared) (D : Addr) (y : V) (z : Value) (E : Value → Shared → Prop) (Nx : Hp → Prop) (Q : Value → Shared → Prop), Inv X pins σ H s → RelV y z → add D y H Nx →
  (∀ s' H', Inv X pins σ H' s' → Nx H' → Q .none s') → wpAny (model X.prog X.w) X.A (call (.builtin "set.add") [.ref D, z]) Q E s
variable {D0 : Addr → HO} {add : Addr → V → Hp → (Hp → Prop) → Prop}
theorem scG_core {pins : List (Addr × Obj)} {s : Shared} {σ : L2.St} {H : Hp} {Q : VK} {elt tg iter : Expr} {ifs : List Expr} {scope : Scope} {own : List (PySem.Str × Nat)} {pos pos' : Pos} {wi : TI} {g : TG} {tt : TT} {te : TE} {use : Option (Value → Sem Unit)} {Qf : Value → Shared → Prop}
    (hc : X.calm = true) (hN : X.N.Nodup) (I : Inv X pins σ H s) (hi : PI X tg iter wi) (ok : BlkOk X.N X.env.scope scope own)
    (hg : ∀ (s : Shared) (H : Hp) (C : Addr) (cl : List (PySem.Str × Addr)) (fp : List Addr), PG (X.blk s H scope (compEnvC scope cl C X.env) fp) tg g) (ht : ∀ (s : Shared) (H : Hp) (C : Addr) (cl : List (PySem.Str × Addr)) (fp : List Addr), PTs (X.blk s H scope (compEnvC scope cl C X.env) fp) ifs tt)
    (he : ∀ (s : Shared) (H : Hp) (C : Addr) (cl : List (PySem.Str × Addr)) (fp : List Addr), PE (X.blk s H scope (compEnvC scope cl C X.env) fp) elt te) (hD0 : ∀ (H : Hp) (h : Heap), ObjOk X.prog X.w H (h.push { cls := .type "set", dict := none, data := .set #[] 0 (.fresh 0 0 (!X.w.params.followText "set-order")) }) h.objs.size (D0 h.objs.size)) (hadd : ∀ (s : Shared) (H : Hp) (C : Addr) (cl : List (PySem.Str × Addr)) (fp : List Addr), AddR (X.blk s H scope (compEnvC scope cl C X.env) fp) add)
    (hs : ∀ x, foldedSetIterable iter X.env x = pure x)
    (h : tScG D0 add wi g tt te (own.map (·.2)) σ H Q)
    (hRR : ∀ D C s' m H', Inv X pins σ H' s' → Q (.ref D) H' → s'.heap.Ns C m → FpOk X pins H' C → compPost (model X.prog X.w) X.A X.xe use Qf (.ref D) C (.ok .next) s') :
    wpAny (model X.prog X.w) X.A (comprehension (.SetComp elt [⟨tg, iter, ifs, 0⟩] scope pos) scope X.env pos' (newSet (.type "set")) false (eval iter X.env) use) Qf X.xe s := by
  have hfree : ∀ y ∈ scope.names, y.2 = .free → ∃ c, X.env.cells.lookup y.1 = some c := fun y hy e => by
    rcases ok.free y hy e with k | k
    · exact I.ok.has _ (.inl k)
    · exact I.ok.has _ (.inr k)
  refine wpAny_comprehension_free (use := use) rfl hs (closure_ok hfree) ok.kind (fun y hy e => by rw [ok.uniq y hy, e])
    (thn (hi.run pins s σ H _ I h) fun xv s1 hx => thn hx fun itv s2 h2 => ?_)
  obtain ⟨it, fp, tn, J, H2, e, I2, T, st2, f2, q⟩ := h2
  subst e
  refine newSet_ok (newEnv_comp ?_)
  generalize hD : s2.heap.objs.size = D
  have hDn : H2 D = none := I2.hok.fresh (Nat.le_of_eq hD)
  obtain ⟨W, ⟨m0, w0⟩, turn⟩ := q D hDn
  -- the new list
  generalize hs3 : ({ s2 with heap := s2.heap.push { cls := .type "set", dict := none, data := .set #[] 0 (.fresh 0 0 (!X.w.params.followText "set-order")) } } : Shared) = s3
  have I3 : Inv X pins σ (upd H2 D (D0 D)) s3 := by
    rw [← hs3]
    refine I2.laid (t' := s2.toks) (fun b o e => Heap.get?_push_of_some _ e) (Nat.le_of_eq hD) ?_
    rw [← hD]
    exact hD0 _ _
  have h3 : s3.heap = s2.heap.push { cls := .type "set", dict := none, data := .set #[] 0 (.fresh 0 0 (!X.w.params.followText "set-order")) } := by rw [← hs3]
  have sz : ∀ b ∈ fp, b < s2.heap.objs.size := fun b hb => by
    obtain ⟨o, e, _⟩ := T.obj _ _ st2 b hb
    exact Heap.lt_size e
  have f3 : ∀ b ∈ fp, FpOk X pins (upd H2 D (D0 D)) b ∧ b < s3.heap.objs.size := fun b hb => by
    have hlt := sz b hb
    refine ⟨⟨?_, (f2 b hb).2⟩, by rw [h3, Heap.size_push]; exact Nat.lt_succ_of_lt hlt⟩
    rw [upd_ne (by rw [← hD]; exact Nat.ne_of_lt hlt)]
    exact (f2 b hb).1
  have st3 : tn 0 s3.heap := T.keep _ _ _ st2 fun b _ o e => by rw [h3]; exact Heap.get?_push_of_some _ e
  have I4 := block_start I3 ok hN f3
  have pg := hg s3 (upd H2 D (D0 D)) s3.heap.objs.size (cellsFrom (s3.heap.objs.size + 1) scope.names (cloFrom X.env.cells scope.names [])) fp
  have pt := ht s3 (upd H2 D (D0 D)) s3.heap.objs.size (cellsFrom (s3.heap.objs.size + 1) scope.names (cloFrom X.env.cells scope.names [])) fp
  have pe := he s3 (upd H2 D (D0 D)) s3.heap.objs.size (cellsFrom (s3.heap.objs.size + 1) scope.names (cloFrom X.env.cells scope.names [])) fp
  show codeAny _ _ (.compStart (.SetComp elt [⟨tg, iter, ifs, 0⟩] scope pos) 0 (.ref it) (.ref D) (compEnvC scope (cellsFrom (s3.heap.objs.size + 1) scope.names (cloFrom X.env.cells scope.names [])) s3.heap.objs.size X.env)) (compPost (model X.prog X.w) X.A X.xe use Qf (.ref D) s3.heap.objs.size) { s3 with heap := pushCells (s3.heap.push { cls := .type "dict", data := .dict #[] }) scope.names }
  have nfp : ∀ b ∈ fp, (upd H2 D (D0 D)) b = none := fun b hb => (f3 b hb).1.1
  have hadd := hadd s3 (upd H2 D (D0 D)) s3.heap.objs.size (cellsFrom (s3.heap.objs.size + 1) scope.names (cloFrom X.env.cells scope.names [])) fp
  generalize hce : compEnvC scope (cellsFrom (s3.heap.objs.size + 1) scope.names (cloFrom X.env.cells scope.names [])) s3.heap.objs.size X.env = ce at I4 pg pt pe hadd ⊢
  have cL : ce.locals = s3.heap.objs.size := by subst hce; rfl
  generalize hH3 : upd H2 D (D0 D) = H3 at I3 I4 pg pt pe hadd w0 nfp f3
  generalize hs4 : ({ s3 with heap := pushCells (s3.heap.push { cls := .type "dict", data := .dict #[] }) scope.names } : Shared) = s4 at I4 ⊢
  have st4 : tn 0 s4.heap := T.keep _ _ _ st3 fun b _ o e => by rw [← hs4]; exact pushCells_keeps _ _ _ _ (Heap.get?_push_of_some _ e)
  have stat : ∀ {σ' : L2.St} {H' : Hp} {s' : Shared}, Inv (X.blk s3 H3 scope ce fp) [] σ' H' s' → (∀ b ∈ fp, H' b = none) → ∀ b ∈ fp, FpOk (X.blk s3 H3 scope ce fp) [] H' b := fun {σ' H' s'} I' hn b hb =>
    ⟨hn b hb, (I'.ok.exf b hb).1, I'.ok.exfs b hb, .inl hb, fun x c e => (I'.ok.exf b hb).2 x c e, fun p hp => absurd (show p ∈ ([] : List (Addr × Obj)) ++ [] from hp) (by simp)⟩
  have loop : codeAny (model X.prog X.w) X.A (.compLoop (.SetComp elt [⟨tg, iter, ifs, 0⟩] scope pos) 0 (.ref it) (.ref D) ce) (compPost (model X.prog X.w) X.A X.xe use Qf (.ref D) s3.heap.objs.size) s4 := by
    refine compLoopS_any (fun n s' => ∃ i H', Inv (X.blk s3 H3 scope ce fp) [] (wipe σ (own.map (·.2))) H' s' ∧ tn i s'.heap ∧ (∀ b ∈ fp, H' b = none) ∧ W i n H') ?_ m0 ⟨0, H3, I4, st4, nfp, w0⟩
    rintro n s5 ⟨i, H5, I5, st5, n5, w5⟩
    rcases turn i n H5 w5 with ⟨stop, qq⟩ | ⟨go, Nx, hNx, step⟩
    · have td := T.done (X.blk s3 H3 scope ce fp) rfl rfl rfl hc i [] s5 _ H5 (fun _ _ => False) I5 (stat I5 n5) st5 stop
      refine thnF td fun r s6 ⟨hr, I6⟩ => ?_
      subst hr
      -- back in the def's context
      have I7 : Inv X pins σ H5 s6 := I3.call' (ch := fp) I6.os I6.base I6.hok I6.bare fun b hb => ⟨(f3 b hb).1.2.2.2.1, (f3 b hb).1.2.1, (f3 b hb).1.2.2.2.2.1, (f3 b hb).1.2.2.2.2.2⟩
      have nC : H5 s3.heap.objs.size = none := by
        have z : H5 ce.locals = none := I6.free
        rw [cL] at z
        exact z
      obtain ⟨m, hn, _⟩ := I6.loc
      have hn : s6.heap.Ns ce.locals m := hn
      rw [cL] at hn
      exact hRR D s3.heap.objs.size s6 m H5 I7 qq hn (I3.fpOk (Nat.le_refl _) nC)
    · have ti := T.item (X.blk s3 H3 scope ce fp) rfl rfl rfl hc i [] s5 _ H5 (fun _ _ => False) I5 (stat I5 n5) st5 go
      refine thnF ti fun r s6 ⟨u, hr, h6⟩ => ?_
      subst hr
      refine thnF h6 fun _ s7 ⟨x, H7, I7, r7, y7, st7, n7⟩ => ?_
      have I7' := I7.pinned (stat I7 n7) (T.obj _ _ st7)
      refine thnF (pg.run _ s7 _ H7 x u _ I7' r7 (step x H7 y7)) fun _ s8 ⟨σ8, H8, I8, hw8, q8⟩ => ?_
      refine thnF (pt.run _ s8 σ8 H8 _ I8 q8) fun b s9 ⟨H9, I9, q9⟩ => ?_
      -- the turn's end
      have fin : ∀ {s' : Shared} {H' : Hp}, Inv (X.blk s3 H3 scope ce fp) ([] ++ pinsAt fp s7.heap) σ8 H' s' → Nx H' → ∃ m, m < n ∧ ∃ i H', Inv (X.blk s3 H3 scope ce fp) [] (wipe σ (own.map (·.2))) H' s' ∧ tn i s'.heap ∧ (∀ b ∈ fp, H' b = none) ∧ W i m H' := fun {s' H'} I' nx => by
        obtain ⟨m', hm, w'⟩ := hNx H' nx
        have pin' : ∀ b ∈ fp, ∀ o, s7.heap.get? b = some o → s'.heap.get? b = some o ∧ H' b = none := fun b hb o e =>
          let z := I'.pin (b, o) (List.mem_append_right _ (List.mem_append_right _ (mem_pinsAt hb e)))
          ⟨z.1, z.2.1⟩
        have hl : (wipe σ (own.map (·.2))).length = σ8.length := by rw [← hw8, wipe_length]
        refine ⟨m', hm, i + 1, H', (I'.unpinned (pins := [])).weak hl (fun j v e => ?_), T.keep _ _ _ st7 fun b hb o e => (pin' b hb o e).1, fun b hb => ?_, w'⟩
        · rw [← hw8] at e
          exact (wipe_some e).1
        · obtain ⟨o, e, _⟩ := T.obj _ _ st7 b hb
          exact (pin' b hb o e).2
      cases b with
      | false =>
        simp only [Bool.false_eq_true, if_false] at q9 ⊢
        exact fin I9 q9
      | true =>
        simp only [if_true] at q9 ⊢
        refine thnF (pe.run _ s9 σ8 H9 _ I9 q9) fun z s10 ⟨yv, H10, I10, r10, ad⟩ => ?_
        exact hadd _ _ _ _ _ _ _ _ _ _ I10 r10 ad fun s11 H11 I11 nx => fin I11 nx
  exact PpSet.codeAny_compStart_set loop (T.self X.A 0 _ _ _ st4 loop)
/-- as a value -/
theorem pe_scG {elt tg iter : Expr} {ifs : List Expr} {scope : Scope} {own : List (PySem.Str × Nat)} {pos : Pos} {wi : TI} {g : TG} {tt : TT} {te : TE} (hc : X.calm = true) (hN : X.N.Nodup) (hi : PI X tg iter wi) (ok : BlkOk X.N X.env.scope scope own)
    (hg : ∀ (s : Shared) (H : Hp) (C : Addr) (cl : List (PySem.Str × Addr)) (fp : List Addr), PG (X.blk s H scope (compEnvC scope cl C X.env) fp) tg g) (ht : ∀ (s : Shared) (H : Hp) (C : Addr) (cl : List (PySem.Str × Addr)) (fp : List Addr), PTs (X.blk s H scope (compEnvC scope cl C X.env) fp) ifs tt)
    (he : ∀ (s : Shared) (H : Hp) (C : Addr) (cl : List (PySem.Str × Addr)) (fp : List Addr), PE (X.blk s H scope (compEnvC scope cl C X.env) fp) elt te) (hD0 : ∀ (H : Hp) (h : Heap), ObjOk X.prog X.w H (h.push { cls := .type "set", dict := none, data := .set #[] 0 (.fresh 0 0 (!X.w.params.followText "set-order")) }) h.objs.size (D0 h.objs.size)) (hadd : ∀ (s : Shared) (H : Hp) (C : Addr) (cl : List (PySem.Str × Addr)) (fp : List Addr), AddR (X.blk s H scope (compEnvC scope cl C X.env) fp) add)
    (hs : ∀ x, foldedSetIterable iter X.env x = pure x := by intro _; rfl) :
    PE X (.SetComp elt [⟨tg, iter, ifs, 0⟩] scope pos) (tScG D0 add wi g tt te (own.map (·.2))) := by
  refine ⟨fun pins s σ H Q I h => ?_⟩
  rw [eval_SetComp]
  refine scG_core hc hN I hi ok hg ht he hD0 hadd hs h fun D C s' m H' I' q hn f => ⟨m, hn, fun h'' sb => ?_⟩
  obtain ⟨f0, f1, f2, f3, f4, f5⟩ := f
  exact ⟨.ref D, H', I'.turned (t' := s'.toks) (fun b o hb e => (sb.2 b hb).trans e) f0 f1 f3 f4 f5, rfl, q⟩
end
end Tt
end
section
set_option maxHeartbeats 4000000
namespace Tt
open PySem PySem.Spec PyProof.Rows L2
section
variable {X : Cx}
/-! ### sets of tuples of ints: the step, the number of members -/
def addT (K : PySem.W.Frag) (P : Program) (w : World) : Addr → V → Hp → (Hp → Prop) → Prop := fun D y H Nx => ∃ (p : Addr) (k : List Int) (L : List (Addr × List Int)), y = .ref p ∧ SqT K H p (k.map V.int) ∧ H D = some (SetTO P w D L) ∧ (∀ q ∈ L, SqT K H q.1 (q.2.map V.int)) ∧ L.length + 1 < 64 ∧
  ∀ L', (k ∈ L.map (·.2) → L' = L) → (k ∉ L.map (·.2) → L'.Perm ((p, k) :: L)) → Nx (upd H D (SetTO P w D L'))
theorem addT_ok (hu : X.A.units + 64 < cLine) : AddR X (addT X.K X.prog X.w) := by
  intro pins σ H s D y z E Nx Q I r h hq
  obtain ⟨p, k, L, rfl, hk, hD, hL, few, q⟩ := h
  cases r
  have R0 : SetT0 X.prog X.w s.heap D L := (I.hok D _ hD).1
  obtain ⟨es, ep, t, R⟩ := R0.full fun p hp => I.isT (hL p hp)
  obtain ⟨o, ho, hex, hd⟩ := R.ob
  have hT : s.TypeIs (.ref D) "set" := ⟨o, ho, hex.1⟩
  have hx := I.isT hk
  refine wpAny_call_entry F.slot_set_add hT F.entry_set_add ?_ (F.args_set_add_2 _ _)
  unfold Builtin.«set.add» Builtin.Frozenset.oneOther
  simp only [List.isEmpty_nil, bind_assoc]
  unfold Builtin.Frozenset.addrOf setAdd
  refine wpAny_bind (wpAny_pure ?_)
  try dsimp only
  refine wpAny_bind (wpAny_pure ?_)
  try dsimp only
  refine wpAny_bind ?_
  refine wpAny_holding ?_
  refine wpAny_bind (wpAny_pyHash_tuple (by simp; omega) hx ?_)
  refine add_at (s := { s with toks := s.toks + (k.length + 1) }) R hx (by simp; omega) few fun b h' L' es' ep' t' sb R' c1 c2 => ?_
  have he : ∃ u, h'.get? D = some u := by
    obtain ⟨o, ho, _⟩ := R'.ob
    exact ⟨o, ho⟩
  refine wpAny_pure ⟨_, rfl, hq _ _ (I.write (e := D) (t' := s.toks + (k.length + 1)) (by rw [hD]; trivial) (.inl rfl) (fun b u hb hu => (sb.2 b hb).trans hu) he (setTO_new R'.t0)) (q L' c1 c2)⟩
theorem setT0_fresh {P : Program} {w : World} (H : Hp) (h : Heap) : ObjOk P w H (h.push { cls := .type "set", dict := none, data := .set #[] 0 (.fresh 0 0 (!w.params.followText "set-order")) }) h.objs.size (SetTO P w h.objs.size []) :=
  setTO_new (setTR_fresh (P := P) (w := w) (Heap.get?_push_size _ rfl)).t0
/-- {(a, b) for ..}: as a rule -/
theorem pe_scT {elt tg iter : Expr} {ifs : List Expr} {scope : Scope} {own : List (PySem.Str × Nat)} {pos : Pos} {wi : TI} {g : TG} {tt : TT} {te : TE} (hu : X.A.units + 64 < cLine) (hc : X.calm = true) (hN : X.N.Nodup) (hi : PI X tg iter wi) (ok : BlkOk X.N X.env.scope scope own)
    (hg : ∀ (s : Shared) (H : Hp) (C : Addr) (cl : List (PySem.Str × Addr)) (fp : List Addr), PG (X.blk s H scope (compEnvC scope cl C X.env) fp) tg g) (ht : ∀ (s : Shared) (H : Hp) (C : Addr) (cl : List (PySem.Str × Addr)) (fp : List Addr), PTs (X.blk s H scope (compEnvC scope cl C X.env) fp) ifs tt)
    (he : ∀ (s : Shared) (H : Hp) (C : Addr) (cl : List (PySem.Str × Addr)) (fp : List Addr), PE (X.blk s H scope (compEnvC scope cl C X.env) fp) elt te) (hs : ∀ x, foldedSetIterable iter X.env x = pure x := by intro _; rfl) :
    PE X (.SetComp elt [⟨tg, iter, ifs, 0⟩] scope pos) (tScG (fun D => SetTO X.prog X.w D []) (addT X.K X.prog X.w) wi g tt te (own.map (·.2))) :=
  pe_scG hc hN hi ok hg ht he (fun H h => setT0_fresh H h) (fun _ _ _ _ _ => addT_ok hu) hs
/-- the comprehension over a walk -/
theorem sc_it {J : It} {n : Nat} {G : Hp → Prop} {Y : Nat → Hp → V → Hp → Prop} {D0 : Addr → HO} {add : Addr → V → Hp → (Hp → Prop) → Prop} (w : Walk J n G Y) {g : TG} {tt : TT} {te : TE} {vs : List Nat} {σ : L2.St} {H1 : Hp} {D : Addr} {Qd : Hp → Prop} (Pv : Nat → Hp → Prop) (h0 : Pv 0 (upd H1 D (D0 D))) (hG : ∀ i H, i ≤ n → Pv i H → G H)
    (hs : ∀ i x H H', i < n → Pv i H → Y i H x H' → g x (wipe σ vs) H' fun σ2 H2 => wipe σ2 vs = wipe σ vs ∧ tt σ2 H2 fun b H3 =>
      if b = true then te σ2 H3 fun y H4 => add D y H4 (Pv (i + 1)) else Pv (i + 1) H3) (hd : ∀ H, Pv n H → Qd H) :
    ∃ W : Nat → Nat → Hp → Prop, (∃ m, W 0 m (upd H1 D (D0 D))) ∧ ∀ i m H, W i m H →
      (J.stop i H ∧ Qd H) ∨ (J.go i H ∧ ∃ Nx : Hp → Prop, (∀ H', Nx H' → ∃ m', m' < m ∧ W (i + 1) m' H') ∧ ∀ x H', J.yld i H x H' → g x (wipe σ vs) H' fun σ2 H2 => wipe σ2 vs = wipe σ vs ∧ tt σ2 H2 fun b H3 =>
        if b = true then te σ2 H3 fun y H4 => add D y H4 Nx else Nx H3) := by
  refine ⟨fun i m H => m = n - i ∧ i ≤ n ∧ Pv i H, ⟨n, by simp, Nat.zero_le _, h0⟩, ?_⟩
  rintro i m H ⟨rfl, hi, p⟩
  have q := hG i H hi p
  by_cases hlt : i < n
  · refine .inr ⟨w.goes i H hlt q, Pv (i + 1), fun H' p' => ⟨n - (i + 1), by omega, rfl, hlt, p'⟩, fun x H' y => hs i x H H' hlt p (w.yields i H x H' hlt q y)⟩
  · have e : i = n := by omega
    subst e
    exact .inl ⟨w.stops H q, hd H p⟩
/-- len of such a set -/
def rLenTS (P : Program) (w : World) : List V → Hp → VK → Prop := fun xs H Q => ∃ (a : Addr) (L : List (Addr × List Int)), xs = [.ref a] ∧ H a = some (SetTO P w a L) ∧ L.length < 64 ∧ Q (.int L.length) H
theorem cr_lenTS : CallR X (.builtin "len") (rLenTS X.prog X.w) := by
  intro pins s σ H xs us Q I r h
  obtain ⟨a, L, rfl, ha, hl, q⟩ := h
  rw [Vals.ref1 r]
  have R0 : SetT0 X.prog X.w s.heap a L := (I.hok a _ ha).1
  obtain ⟨es, ep, t, ⟨o, ho, hex, hd⟩, hrows, tab, nd, pl, ld, room, few⟩ := R0.ex
  have hsz : es.size = L.length := by
    have h := congrArg List.length hrows
    unfold rowsOf at h
    rw [Array.length_toList, List.length_map] at h
    exact h
  have hf : t.fits es.size = true := by
    have h2 := tab.sz
    rw [List.length_map] at h2
    unfold SetTable.fits SetTable.fill
    rw [tab.dm, Bool.and_eq_true, beq_iff_eq, decide_eq_true_eq]
    show t.place.size = es.size ∧ t.place.size + 0 ≤ t.mask
    omega
  exact call_len_set ho hex hd hf (by rw [hsz]; omega) ⟨.int _, H, I.tok _, ⟨_, by rw [hsz]⟩, q⟩
end
/-! ### isinstance(x, C), C an own class (within a comprehension too) -/
section
variable {X : Cx}
def rIsC (C : Addr) : List V → Hp → VK → Prop := fun xs H Q => ∃ a dx fs, xs = [.ref a, .ref C] ∧ H a = some (.ins C dx fs) ∧ Q (.bl true) H
theorem call_isCB {K : PySem.W.Frag} {C : Addr} (h : X.K = K) (c : C8.InsC K C) : CallR X (.builtin "isinstance") (rIsC C) := by subst h; exact C8.call_isC c
end
/-! ### sorted(()) -/
section
variable {X : Cx}
theorem cr_sortedT0 (hc : X.calm = true) : CallR X (.builtin "sorted") (rSortedT0 X.K) := by
  intro pins s σ H xs us Q I r h
  obtain ⟨t, rfl, ht, q⟩ := h
  rw [Vals.ref1 r]
  obtain ⟨its, rv, ⟨o, ho, hcl, n, hd⟩, hz⟩ := I.tuple ht
  cases rv
  refine Calls.call_function_entry kind_sorted plain_sorted entry_sorted (args_sorted1 _) ?_
  unfold Builtin.«sorted»
  refine wpAny_bind (m := checkCount "sorted" 1 1 _) (wpAny_pure ?_)
  refine wpAny_bind (wpAny_collect_seq t (.inr rfl) ho hcl hd (fun h' hk => ?_) (by show 0 ≤ sizeLine; exact Nat.zero_le _))
  have I1 : Inv X pins σ H { s with heap := h' } := I.kept (t' := s.toks) hk
  refine wpAny_bind (wpAny_newList ?_ (Nat.zero_le _))
  have hoL : (h'.push (seqObj "list" ([] : List Value).toArray 0)).get? h'.objs.size = some (seqObj "list" ([] : List Value).toArray 0) := Heap.get?_push_size _ rfl
  show wpAny _ _ _ _ _ { s with heap := h'.push (seqObj "list" ([] : List Value).toArray 0) }
  refine wpAny_bind (wpAny_holding (wpAny_call_entry slot_list_sort ⟨_, hoL, rfl⟩ entry_list_sort (TS.sort_tups hoL (by decide) (Nat.le_refl 1) (B := 0) (fun v hv => by cases hv) (fun v => 0) (fun v hv => by cases hv) fun out a1 a2 => ⟨_, rfl, ?_⟩) (args_list_sort _)))
  have ho0 : out.toList = [] := List.Perm.eq_nil a1
  refine wpAny_pure ⟨_, rfl, ?_⟩
  obtain ⟨c, hc2⟩ := sortedHeap_at (vs := []) (out := out) hoL
  refine ⟨.ref h'.objs.size, upd H h'.objs.size (.lst []), I1.laid (t' := s.toks) (fun b u e => ?_) (Nat.le_refl _) ⟨Nat.zero_le _, [], c, .nil, ?_⟩, rfl, q _ (I1.hok.fresh (Nat.le_refl _))⟩
  · have hlt := Heap.lt_size e
    rw [sortedHeap_old (Nat.ne_of_lt hlt) (by rw [size_push']; exact Nat.lt_succ_of_lt hlt)]
    exact Heap.get?_push_of_some _ e
  · have e0 : out = #[] := by simpa using ho0
    rw [hc2, e0]
end
end Tt
end
section
set_option maxHeartbeats 4000000
namespace Tt
open PySem PySem.Spec PyProof.Rows L2
/-! ### zip(a, b, strict=True) of two lists -/
abbrev IsZipS (h : Heap) (z TI TO : Addr) (f0 : Value) : Prop :=
  h.get? z = some { cls := .type "zip", dict := none, data := .fields #[f0, .bool false, .bool true, .ref TI, .ref TO], slots := #[] }
theorem typeCall_zipS (a b : Value) : checkTypeCall "zip" ⟨[a, b], [(Str.ofString "strict", .bool true)]⟩ = pure () := by kernel_rfl
theorem newCall_zipS (a b : Value) : checkBuiltinCall "zip.__new__" ⟨[.type "zip", a, b], [(Str.ofString "strict", .bool true)]⟩ = pure () := by kernel_rfl
theorem args_object_init_zipS (obj a b : Value) : argsOk "object.__init__" ⟨[obj, a, b], [(Str.ofString "strict", .bool true)]⟩ := by unfold argsOk; kernel_rfl
section
variable {prog : Program} {w : World} {A : Around} {E : Value → Shared → Prop} {s : Shared}
theorem nextOrEnd_item {it l : Addr} {i : Nat} {items : Array Value} {x : Value} {Q : Option Value → Shared → Prop} (hit : s.heap.IsListIter it l i) (hl : s.heap.IsList l items) (hx : items[i]? = some x)
    (hQ : ∀ h', h'.IsListIter it l (i + 1) → Heap.SameBut it s.heap h' → Q (some x) { s with heap := h' }) : wpAny (model prog w) A (Builtin.SmallTypes.nextOrEnd (.ref it)) Q E s := by
  unfold Builtin.SmallTypes.nextOrEnd
  exact wpAny_bind (wpAny_attempt (wpAny_nextOf_list_item hit hl hx fun h' a b => wpAny_pure (hQ h' a b)))
theorem nextOrEnd_end {it l : Addr} {i : Nat} {items : Array Value} {Q : Option Value → Shared → Prop} (hh : A.handled = none) (hit : s.heap.IsListIter it l i) (hl : s.heap.IsList l items) (hx : items[i]? = none)
    (hQ : ∀ h', Heap.ExtBut it s.heap h' → Q none { s with heap := h' }) : wpAny (model prog w) A (Builtin.SmallTypes.nextOrEnd (.ref it)) Q E s := by
  unfold Builtin.SmallTypes.nextOrEnd
  refine wpAny_bind (wpAny_attempt (wpAny_nextOf_list_end hh hit hl hx fun h' e hb he => ?_))
  obtain ⟨o, ho, hc⟩ := he
  refine wpAny_bind (wpAny_isInstance (T := "StopIteration") (b := true) ⟨o, ho, hc⟩ isSubtype_stop ?_)
  exact wpAny_pure (hQ h' hb)
theorem stopIter {α : Type} {Q : α → Shared → Prop} (hh : A.handled = none) (hE : ∀ h' e, (∀ c o, s.heap.get? c = some o → h'.get? c = some o) → (∃ o, h'.get? e = some o ∧ o.cls = .type "StopIteration") → E (.ref e) { s with heap := h' }) :
    wpAny (model prog w) A (Builtin.SmallTypes.stopIteration (α := α)) Q E s := by
  unfold Builtin.SmallTypes.stopIteration
  show wpAny _ _ (newExc (.type "StopIteration") [] >>= _) _ _ _
  refine wpAny_bind ?_
  simp only [newExc, newTuple]
  refine wpAny_bind (wpAny_newObj_type ?_ (by size_fits))
  refine wpAny_bind (m := firstArgMember _ _) (wpAny_of_eq (a := Value.none) (by first | rfl | (simp only [firstArgMember]; rfl)) ?_)
  refine wpAny_newObj_type ?_ (by size_fits)
  simp only [raiseNew]
  refine wpAny_bind (wpAny_handled ?_)
  rw [hh]
  refine wpAny_bind (wpAny_pure (wpAny_throw ?_))
  exact hE _ _ (fun c o x => Heap.get?_push_of_some _ (Heap.get?_push_of_some _ x)) ⟨_, Heap.get?_push_size _ rfl, rfl⟩
theorem zipS_next_item {z TI TO i1 i2 l1 l2 : Addr} {k1 k2 : Nat} {xs ys : Array Value} {x y a b : Value} {Q : Value → Shared → Prop} (D : ZipApart z TI TO i1 i2 l1 l2)
    (hz : IsZipS s.heap z TI TO .none) (hTI : IsPair s.heap TI (.ref i1) (.ref i2)) (hTO : IsPair s.heap TO a b)
    (h1 : s.heap.IsListIter i1 l1 k1) (h2 : s.heap.IsListIter i2 l2 k2) (hl1 : s.heap.IsList l1 xs) (hl2 : s.heap.IsList l2 ys) (hx : xs[k1]? = some x) (hy : ys[k2]? = some y)
    (hQ : ∀ h', IsZipS h' z TI TO (rawInt s.heap.objs.size) → IsPair h' TO x y → h'.IsListIter i1 l1 (k1 + 1) → h'.IsListIter i2 l2 (k2 + 1) → IsPair h' s.heap.objs.size x y → h'.objs.size = s.heap.objs.size + 1 →
      (∀ c o, c ≠ z → c ≠ TO → c ≠ i1 → c ≠ i2 → s.heap.get? c = some o → h'.get? c = some o) → Q (.ref s.heap.objs.size) { s with heap := h' }) :
    wpAny (model prog w) A (Builtin.«zip.__next__» ⟨[.ref z], []⟩) (fun fin s' => ∃ v, fin = .done (.ret v) ∧ Q v s') E s := by
  show wpAny _ _ (field (.ref z) 2 >>= _) _ _ _
  refine wpAny_bind (wpAny_field hz rfl (x := .bool true) rfl ?_)
  show wpAny _ _ (field (.ref z) 3 >>= _) _ _ _
  refine wpAny_bind (wpAny_field hz rfl (x := .ref TI) rfl ?_)
  refine wpAny_bind (wpAny_seqItems hTI rfl ?_)
  show wpAny _ _ (Builtin.SmallTypes.ownedTupleIsFree (.ref z) >>= _) _ _ _
  refine wpAny_bind ?_
  unfold Builtin.SmallTypes.ownedTupleIsFree
  refine wpAny_bind (wpAny_field hz rfl (x := .none) rfl (wpAny_pure ?_))
  simp only [if_true]
  refine wpAny_bind (wpAny_rule ?_)
  refine wpAny_bind (wpAny_field hz rfl (x := .ref TO) rfl ?_)
  refine wpAny_bind (wpAny_setField_rec hz (by simp) fun h₁ hz₁ hs₁ => ?_)
  replace hz₁ : IsZipS h₁ z TI TO .ellipsis := hz₁
  refine wpAny_bind ?_
  simp only [List.zipIdx_cons, List.zipIdx_nil, List.forIn_cons, List.forIn_nil]

  refine wpAny_bind (wpAny_bind (wpAny_onRaise ?_))
  show wpAny _ _ (Builtin.SmallTypes.nextOrEnd (.ref i1)) _ _ _
  refine nextOrEnd_item (h1.extBut hs₁.extBut D.i1z) (hl1.extBut hs₁.extBut D.l1z) hx fun h₂ h1₂ hs₂ => ?_
  have hTO₂ : IsPair h₂ TO a b := hs₂.extBut _ _ D.TOi1 (hs₁.extBut _ _ D.TOz hTO)
  refine wpAny_bind (wpAny_seqItems hTO₂ rfl ?_)
  refine wpAny_bind (wpAny_updateSeq_pair hTO₂ fun h₃ hTO₃ hs₃ => ?_)
  replace hTO₃ : IsPair h₃ TO x b := hTO₃
  refine wpAny_bind (wpAny_letGo (wpAny_pure ?_))

  refine wpAny_bind (wpAny_bind (wpAny_onRaise ?_))
  show wpAny _ _ (Builtin.SmallTypes.nextOrEnd (.ref i2)) _ _ _
  refine nextOrEnd_item (((h2.extBut hs₁.extBut D.i2z).extBut hs₂.extBut D.i12.symm).extBut hs₃.extBut D.TOi2.symm)
    (((hl2.extBut hs₁.extBut D.l2z).extBut hs₂.extBut D.l2i1).extBut hs₃.extBut D.l2TO) hy fun h₄ h2₄ hs₄ => ?_
  have hTO₄ : IsPair h₄ TO x b := hs₄.extBut _ _ D.TOi2 hTO₃
  refine wpAny_bind (wpAny_seqItems hTO₄ rfl ?_)
  refine wpAny_bind (wpAny_updateSeq_pair hTO₄ fun h₅ hTO₅ hs₅ => ?_)
  replace hTO₅ : IsPair h₅ TO x y := hTO₅
  refine wpAny_bind (wpAny_letGo (wpAny_pure (wpAny_pure ?_)))

  refine wpAny_bind (wpAny_seqItems hTO₅ rfl ?_)
  refine wpAny_bind (wpAny_newTuple ?_)
  have hsz : h₅.objs.size = s.heap.objs.size := by rw [hs₅.1, hs₄.1, hs₃.1, hs₂.1, hs₁.1]
  have hz₅ : IsZipS h₅ z TI TO .ellipsis := hs₅.extBut _ _ D.TOz.symm (hs₄.extBut _ _ D.i2z.symm (hs₃.extBut _ _ D.TOz.symm (hs₂.extBut _ _ D.i1z.symm hz₁)))
  have hk₅ : ∀ c o, c ≠ z → c ≠ TO → c ≠ i1 → c ≠ i2 → s.heap.get? c = some o → h₅.get? c = some o := fun c o c1 c2 c3 c4 e =>
    hs₅.extBut _ _ c2 (hs₄.extBut _ _ c4 (hs₃.extBut _ _ c2 (hs₂.extBut _ _ c3 (hs₁.extBut _ _ c1 e))))
  have h1₅ : h₅.IsListIter i1 l1 (k1 + 1) := ((h1₂.extBut hs₃.extBut D.TOi1.symm).extBut hs₄.extBut D.i12).extBut hs₅.extBut D.TOi1.symm
  have h2₅ : h₅.IsListIter i2 l2 (k2 + 1) := h2₄.extBut hs₅.extBut D.TOi2.symm
  have hzlt : z < h₅.objs.size := Heap.lt_size hz₅
  have hTOlt : TO < h₅.objs.size := Heap.lt_size hTO₅
  have hi1lt : i1 < h₅.objs.size := by obtain ⟨_, e, _⟩ := h1₅; exact Heap.lt_size e
  have hi2lt : i2 < h₅.objs.size := by obtain ⟨_, e, _⟩ := h2₅; exact Heap.lt_size e
  show wpAny _ _ (Builtin.SmallTypes.ownedTupleHandOut (.ref z) (.ref h₅.objs.size) >>= _) _ _ _
  refine wpAny_bind ?_
  unfold Builtin.SmallTypes.ownedTupleHandOut
  have hz₆ : IsZipS (h₅.push { cls := .type "tuple", data := .seq #[x, y] }) z TI TO .ellipsis := Heap.get?_push_of_some _ hz₅
  refine wpAny_bind (wpAny_setField_rec hz₆ (by simp) fun h₇ hz₇ hs₇ => ?_)
  replace hz₇ : IsZipS h₇ z TI TO (rawInt h₅.objs.size) := hz₇
  refine wpAny_setField_rec hz₇ (by simp) fun h₈ hz₈ hs₈ => ?_
  replace hz₈ : IsZipS h₈ z TI TO (rawInt h₅.objs.size) := hz₈
  have up : ∀ c o, c ≠ z → h₅.get? c = some o → h₈.get? c = some o := fun c o c1 e => hs₈.extBut _ _ c1 (hs₇.extBut _ _ c1 (Heap.get?_push_of_some _ e))
  have hT₈ : IsPair h₈ h₅.objs.size x y := hs₈.extBut _ _ (Nat.ne_of_gt hzlt) (hs₇.extBut _ _ (Nat.ne_of_gt hzlt) (Heap.get?_push_size _ rfl))
  have hz8 : h₈.objs.size = h₅.objs.size + 1 := by rw [hs₈.1, hs₇.1, Heap.size_push]
  rw [hsz] at hz₈ hT₈ hz8
  refine wpAny_pure ⟨_, rfl, ?_⟩
  show Q (.ref h₅.objs.size) _
  rw [hsz]
  exact hQ h₈ hz₈ (up _ _ D.TOz hTO₅) (h1₅.at fun o e => up _ o D.i1z e) (h2₅.at fun o e => up _ o D.i2z e) hT₈ hz8 fun c o c1 c2 c3 c4 e => up c o c1 (hk₅ c o c1 c2 c3 c4 e)


theorem zipS_next_end {z TI TO i1 i2 l1 l2 : Addr} {k1 k2 : Nat} {xs ys : Array Value} {a b : Value} {Q : Fin → Shared → Prop} (hh : A.handled = none) (D : ZipApart z TI TO i1 i2 l1 l2)
    (hz : IsZipS s.heap z TI TO .none) (hTI : IsPair s.heap TI (.ref i1) (.ref i2)) (hTO : IsPair s.heap TO a b)
    (h1 : s.heap.IsListIter i1 l1 k1) (h2 : s.heap.IsListIter i2 l2 k2) (hl1 : s.heap.IsList l1 xs) (hl2 : s.heap.IsList l2 ys) (hx : xs[k1]? = none) (hy : ys[k2]? = none)
    (hE : ∀ h' e, (∀ c o, c ≠ z → c ≠ TO → c ≠ i1 → c ≠ i2 → s.heap.get? c = some o → h'.get? c = some o) → (∃ o, h'.get? e = some o ∧ o.cls = .type "StopIteration") → E (.ref e) { s with heap := h' }) :
    wpAny (model prog w) A (Builtin.«zip.__next__» ⟨[.ref z], []⟩) Q E s := by
  show wpAny _ _ (field (.ref z) 2 >>= _) _ _ _
  refine wpAny_bind (wpAny_field hz rfl (x := .bool true) rfl ?_)
  show wpAny _ _ (field (.ref z) 3 >>= _) _ _ _
  refine wpAny_bind (wpAny_field hz rfl (x := .ref TI) rfl ?_)
  refine wpAny_bind (wpAny_seqItems hTI rfl ?_)
  show wpAny _ _ (Builtin.SmallTypes.ownedTupleIsFree (.ref z) >>= _) _ _ _
  refine wpAny_bind ?_
  unfold Builtin.SmallTypes.ownedTupleIsFree
  refine wpAny_bind (wpAny_field hz rfl (x := .none) rfl (wpAny_pure ?_))
  simp only [if_true]
  refine wpAny_bind (wpAny_rule ?_)
  refine wpAny_bind (wpAny_field hz rfl (x := .ref TO) rfl ?_)
  refine wpAny_bind (wpAny_setField_rec hz (by simp) fun h₁ hz₁ hs₁ => ?_)
  replace hz₁ : IsZipS h₁ z TI TO .ellipsis := hz₁
  refine wpAny_bind ?_
  simp only [List.zipIdx_cons, List.zipIdx_nil, List.forIn_cons, List.forIn_nil]
  refine wpAny_bind (wpAny_bind (wpAny_onRaise ?_))
  show wpAny _ _ (Builtin.SmallTypes.nextOrEnd (.ref i1)) _ _ _
  refine nextOrEnd_end hh (h1.extBut hs₁.extBut D.i1z) (hl1.extBut hs₁.extBut D.l1z) hx fun h₂ hs₂ => ?_
  have hz₂ : IsZipS h₂ z TI TO .ellipsis := hs₂ _ _ D.i1z.symm hz₁
  refine wpAny_bind (wpAny_setField_rec hz₂ (by simp) fun h₃ hz₃ hs₃ => ?_)
  have h2₃ : h₃.IsListIter i2 l2 k2 := ((h2.extBut hs₁.extBut D.i2z).at fun o e => hs₂ _ o D.i12.symm e).extBut hs₃.extBut D.i2z
  have hl2₃ : h₃.IsList l2 ys := ((hl2.extBut hs₁.extBut D.l2z).at fun o e => hs₂ _ o D.l2i1 e).extBut hs₃.extBut D.l2z
  refine wpAny_bind ?_
  show wpAny _ _ ((forIn ([(Value.ref i2, 1)] : List (Value × Nat)) PUnit.unit _ : Sem PUnit) >>= _) _ _ _
  simp only [List.forIn_cons, List.forIn_nil]
  refine wpAny_bind (wpAny_bind ?_)
  refine wpAny_bind (nextOrEnd_end hh h2₃ hl2₃ hy fun h₄ hs₄ => ?_)
  refine wp_if_neg (by decide) (wpAny_pure (wpAny_pure ?_))
  refine wpAny_bind (wpAny_rule (stopIter hh fun h₅ e hk he => ?_))
  refine hE h₅ e (fun c o c1 c2 c3 c4 x => hk c o (hs₄ _ _ c4 (hs₃.extBut _ _ c1 (hs₂ _ _ c3 (hs₁.extBut _ _ c1 x))))) he
theorem pyNext_zipS_item {z TI TO i1 i2 l1 l2 : Addr} {k1 k2 : Nat} {xs ys : Array Value} {x y a b : Value} {Q : Option Value → Shared → Prop} (D : ZipApart z TI TO i1 i2 l1 l2)
    (hz : IsZipS s.heap z TI TO .none) (hTI : IsPair s.heap TI (.ref i1) (.ref i2)) (hTO : IsPair s.heap TO a b)
    (h1 : s.heap.IsListIter i1 l1 k1) (h2 : s.heap.IsListIter i2 l2 k2) (hl1 : s.heap.IsList l1 xs) (hl2 : s.heap.IsList l2 ys) (hx : xs[k1]? = some x) (hy : ys[k2]? = some y)
    (hQ : ∀ h', IsZipS h' z TI TO (rawInt s.heap.objs.size) → IsPair h' TO x y → h'.IsListIter i1 l1 (k1 + 1) → h'.IsListIter i2 l2 (k2 + 1) → IsPair h' s.heap.objs.size x y → h'.objs.size = s.heap.objs.size + 1 →
      (∀ c o, c ≠ z → c ≠ TO → c ≠ i1 → c ≠ i2 → s.heap.get? c = some o → h'.get? c = some o) → Q (some (.ref s.heap.objs.size)) { s with heap := h' }) :
    wpAny (model prog w) A (pyNext (.ref z)) Q E s := by
  have hT : s.TypeIs (.ref z) "zip" := ⟨_, hz, rfl⟩
  unfold pyNext
  exact wpAny_bind (wpAny_attempt (wpAny_callSpecial?_slot (name := Str.ofString "__next__") hT F.slot_zip_next
    (wpAny_call_entry F.slot_zip_next hT F.entry_zip_next
      (zipS_next_item D hz hTI hTO h1 h2 hl1 hl2 hx hy fun h' a1 a2 a3 a4 a5 a6 a7 => wpAny_pure (hQ h' a1 a2 a3 a4 a5 a6 a7)) (F.args_zip_next_1 _))))


theorem pyNext_zipS_end {z TI TO i1 i2 l1 l2 : Addr} {k1 k2 : Nat} {xs ys : Array Value} {a b : Value} {Q : Option Value → Shared → Prop} (hh : A.handled = none) (D : ZipApart z TI TO i1 i2 l1 l2)
    (hz : IsZipS s.heap z TI TO .none) (hTI : IsPair s.heap TI (.ref i1) (.ref i2)) (hTO : IsPair s.heap TO a b)
    (h1 : s.heap.IsListIter i1 l1 k1) (h2 : s.heap.IsListIter i2 l2 k2) (hl1 : s.heap.IsList l1 xs) (hl2 : s.heap.IsList l2 ys) (hx : xs[k1]? = none) (hy : ys[k2]? = none)
    (hQ : ∀ h', (∀ c o, c ≠ z → c ≠ TO → c ≠ i1 → c ≠ i2 → s.heap.get? c = some o → h'.get? c = some o) → Q none { s with heap := h' }) : wpAny (model prog w) A (pyNext (.ref z)) Q E s := by
  have hT : s.TypeIs (.ref z) "zip" := ⟨_, hz, rfl⟩
  unfold pyNext
  refine wpAny_bind (wpAny_attempt (wpAny_callSpecial?_slot (name := Str.ofString "__next__") hT F.slot_zip_next
    (wpAny_call_entry F.slot_zip_next hT F.entry_zip_next (zipS_next_end hh D hz hTI hTO h1 h2 hl1 hl2 hx hy fun h' e hk he => ?_) (F.args_zip_next_1 _))))
  obtain ⟨o, ho, hc⟩ := he
  refine wpAny_bind (wpAny_isInstance (T := "StopIteration") (b := true) ⟨o, ho, hc⟩ isSubtype_stop ?_)
  exact wpAny_pure (hQ _ hk)

theorem letGo_zipS {elts : List Expr} {x1} {pos : Pos} {z TI TO T : Addr} {Q : Unit → Shared → Prop} (hz : IsZipS s.heap z TI TO (rawInt T))
    (hQ : ∀ h', IsZipS h' z TI TO .none → Heap.SameBut z s.heap h' → Q () { s with heap := h' }) :
    wpAny (model prog w) A (letOwnedTupleGo (.Tuple elts x1 pos) (.ref z) (.ref T)) Q E s := by
  unfold letOwnedTupleGo
  refine wpAny_bind (wpAny_load hz ?_)
  show wpAny _ _ (if (["enumerate", "zip", "dict_itemiterator", "dict_reverseitemiterator", "odict_iterator", "itertools.zip_longest", "itertools.pairwise"].contains "zip" &&
      (#[rawInt T, .bool false, .bool true, .ref TI, .ref TO] : Array Value)[0]? == some (rawInt T)) = true then _ else _) Q E s
  rw [if_pos (by simp)]
  refine wpAny_bind (wpAny_rule ?_)
  show wpAny _ _ (setField (.ref z) 0 .none) Q E s
  exact wpAny_setField_rec hz (by simp) fun h' hz' hs' => hQ h' hz' hs'

theorem pyIter_zipS {z TI TO : Addr} {f0 : Value} {Q : Value → Shared → Prop} (hz : IsZipS s.heap z TI TO f0) (h : Q (.ref z) s) : wpAny (model prog w) A (pyIter (.ref z)) Q E s := by
  have hT : s.TypeIs (.ref z) "zip" := ⟨_, hz, rfl⟩
  refine wpAny_pyIter_slot hT F.slot_zip_iter (wpAny_call_entry F.slot_zip_iter hT F.entry_zip_iter ?_ (F.args_zip_iter_1 _))
  show wpAny _ _ (ret (.ref z)) _ _ s
  exact wpAny_pure ⟨_, rfl, "zip", _, hT, F.slot_zip_next.lookup, h⟩

end
abbrev zipS5 (h : Heap) (l1 l2 : Addr) : Heap := (zipH4 h l1 l2).push { cls := .type "zip", data := .fields #[.none, .bool false, .bool true, .ref (zipH2 h l1 l2).objs.size, .ref (zipH3 h l1 l2).objs.size] }
theorem meets_zipS_new (l1 l2 : Addr) (xs ys : Array Value) :
    PySem.Meets (Builtin.«zip.__new__» ⟨[.type "zip", .ref l1, .ref l2], [(Str.ofString "strict", .bool true)]⟩) (fun _ R s => s.heap.IsList l1 xs ∧ s.heap.IsList l2 ys ∧
      R (.ok (.ret (.ref (zipH4 s.heap l1 l2).objs.size))) { s with heap := zipS5 s.heap l1 l2 }) :=
  .of_wp fun prog w A R s h => by
    obtain ⟨hp, g, d, tk, os⟩ := s; obtain ⟨hl1, hl2, h⟩ := h
    have hsub := sub_zip
    have hL1 : Heap.IsList (Shared.heap ⟨hp, g, d, tk, os⟩) l1 xs := hl1
    have hL2 : Heap.IsList (Shared.heap ⟨hp.push { cls := .type "list_iterator", data := .fields #[.ref l1, .int 0 0] }, g, d, tk, os⟩) l2 ys := Heap.IsList.push hl2 _
    have e1 : (Str.ofString "strict" == ("strict" : Str)) = true := by decide +kernel
    have e2 : (Str.ofString "strict" != ("strict" : Str)) = false := by decide +kernel
    have e4 : (("strict" : Str) == Str.ofString "strict") = true := by decide +kernel
    wp_walk using wpAny_pyIter_list hL1, wpAny_pyIter_list hL2
    exact ⟨_, rfl, h⟩
section
variable {prog : Program} {w : World} {A : Around} {E : Value → Shared → Prop} {s : Shared}
theorem call_zipS {l1 l2 : Addr} {xs ys : Array Value} {Q : Value → Shared → Prop} (hl1 : s.heap.IsList l1 xs) (hl2 : s.heap.IsList l2 ys)
    (h : ∀ h', IsZipS h' (s.heap.objs.size + 4) (s.heap.objs.size + 2) (s.heap.objs.size + 3) .none → IsPair h' (s.heap.objs.size + 2) (.ref s.heap.objs.size) (.ref (s.heap.objs.size + 1)) →
      IsPair h' (s.heap.objs.size + 3) .none .none → h'.IsListIter s.heap.objs.size l1 0 → h'.IsListIter (s.heap.objs.size + 1) l2 0 → h'.objs.size = s.heap.objs.size + 5 →
      (∀ c o, s.heap.get? c = some o → h'.get? c = some o) → Q (.ref (s.heap.objs.size + 4)) { s with heap := h' }) :
    wpAny (model prog w) A (call (.type "zip") [.ref l1, .ref l2] [(Str.ofString "strict", .bool true)]) Q E s := by
  refine callType_newKw F.called_zip (by decide) (typeCall_zipS _ _) (newCall_zipS _ _) (fun obj => args_object_init_zipS obj _ _) F.entry_zip_new
    (meets_zipS_new l1 l2 xs ys) ⟨hl1, hl2, ?_⟩
  have z1 : (zipH1 s.heap l1).objs.size = s.heap.objs.size + 1 := Heap.size_push ..
  have z2 : (zipH2 s.heap l1 l2).objs.size = s.heap.objs.size + 2 := by rw [Heap.size_push, z1]
  have z3 : (zipH3 s.heap l1 l2).objs.size = s.heap.objs.size + 3 := by rw [Heap.size_push, z2]
  have z4 : (zipH4 s.heap l1 l2).objs.size = s.heap.objs.size + 4 := by rw [Heap.size_push, z3]
  have z5 : (zipS5 s.heap l1 l2).objs.size = s.heap.objs.size + 5 := by rw [Heap.size_push, z4]
  have g5 : (zipS5 s.heap l1 l2).get? (zipH4 s.heap l1 l2).objs.size = some _ := Heap.get?_push_size _ rfl
  have g4 : (zipS5 s.heap l1 l2).get? (zipH3 s.heap l1 l2).objs.size = some _ := Heap.get?_push_of_some _ (Heap.get?_push_size _ rfl)
  have g3 : (zipS5 s.heap l1 l2).get? (zipH2 s.heap l1 l2).objs.size = some _ := Heap.get?_push_of_some _ (Heap.get?_push_of_some _ (Heap.get?_push_size _ rfl))
  have g2 : (zipS5 s.heap l1 l2).get? (zipH1 s.heap l1).objs.size = some _ := Heap.get?_push_of_some _ (Heap.get?_push_of_some _ (Heap.get?_push_of_some _ (Heap.get?_push_size _ rfl)))
  have g1 : (zipS5 s.heap l1 l2).get? s.heap.objs.size = some _ := Heap.get?_push_of_some _ (Heap.get?_push_of_some _ (Heap.get?_push_of_some _ (Heap.get?_push_of_some _ (Heap.get?_push_size _ rfl))))
  show _ ∧ _
  rw [z2, z3, z4] at g5
  rw [z1, z2] at g3
  rw [z3] at g4
  rw [z1] at g2
  rw [z4]
  exact ⟨⟨_, g5, rfl⟩, h _ g5 g3 g4 ⟨_, g1, rfl, rfl⟩ ⟨_, g2, rfl, rfl⟩ z5 fun c o x =>
    Heap.get?_push_of_some _ (Heap.get?_push_of_some _ (Heap.get?_push_of_some _ (Heap.get?_push_of_some _ (Heap.get?_push_of_some _ x))))⟩


end
/-- as Itz, at its end both lists at their ends -/
def ItzS (K : PySem.W.Frag) (a b : Addr) : It :=
  ⟨fun i H => ∃ (xs ys : List V) (x y : V), SqL K H a xs ∧ SqL K H b ys ∧ xs[i]? = some x ∧ ys[i]? = some y,
    fun i H v H' => ∃ T x y, v = .ref T ∧ H T = none ∧ H' = upd H T (.tup [x, y]) ∧ (∀ xs, SqL K H a xs → xs[i]? = some x) ∧ ∀ ys, SqL K H b ys → ys[i]? = some y,
    fun i H => ∃ xs ys : List V, SqL K H a xs ∧ SqL K H b ys ∧ xs.length ≤ i ∧ ys.length ≤ i⟩
theorem turn_zipS {P : Program} {w : World} {K : PySem.W.Frag} {elts : List Expr} {kk : Nat} {tpos : Pos} {a b z TI TO i1 i2 : Addr} (D : ZipApart z TI TO i1 i2 a b) :
    Turn P w K (.Tuple elts kk tpos) (ItzS K a b) [z, TI, TO, i1, i2] z (fun i h => IsZipS h z TI TO .none ∧ IsPair h TI (.ref i1) (.ref i2) ∧ (∃ x y, IsPair h TO x y) ∧ h.IsListIter i1 a i ∧ h.IsListIter i2 b i) where
  mem := by simp
  obj := fun i h st c hc => by
    obtain ⟨hz, hTI, ⟨x, y, hTO⟩, ⟨o1, e1, _, d1⟩, ⟨o2, e2, _, d2⟩⟩ := st
    have e' : c = z ∨ c = TI ∨ c = TO ∨ c = i1 ∨ c = i2 := by simpa using hc
    rcases e' with q | q | q | q | q
    · rw [q]; exact ⟨_, hz, fun v q => nomatch q⟩
    · rw [q]; exact ⟨_, hTI, fun v q => nomatch q⟩
    · rw [q]; exact ⟨_, hTO, fun v q => nomatch q⟩
    · rw [q]; exact ⟨o1, e1, fun v q => by rw [d1] at q; cases q⟩
    · rw [q]; exact ⟨o2, e2, fun v q => by rw [d2] at q; cases q⟩
  keep := fun i h h' st k => by
    obtain ⟨hz, hTI, ⟨x, y, hTO⟩, h1, h2⟩ := st
    exact ⟨k z (by simp) _ hz, k TI (by simp) _ hTI, ⟨x, y, k TO (by simp) _ hTO⟩, h1.at fun o q => k i1 (by simp) o q, h2.at fun o q => k i2 (by simp) o q⟩
  item := by
    intro X hP hw hK hc i pins s σ H E I hf st hg
    subst hP hw hK
    obtain ⟨hz, hTI, ⟨x0, y0, hTO⟩, h1, h2⟩ := st
    obtain ⟨xs, ys, x, y, hqx, hqy, hx, hy⟩ := hg
    obtain ⟨its, rv, p, _⟩ := I.list hqx
    obtain ⟨its2, rv2, p2, _⟩ := I.list hqy
    obtain ⟨u, hu, ru⟩ := rv.get hx
    obtain ⟨u2, hu2, ru2⟩ := rv2.get hy
    have hzl : z < s.heap.objs.size := Heap.lt_size hz
    refine pyNext_zipS_item D hz hTI hTO h1 h2 p.isList p2.isList (x := u) (y := u2) (by simpa using hu) (by simpa using hu2) fun h' z' TO' h1' h2' hT hsz hk => ?_
    refine ⟨_, rfl, letGo_zipS (s := { s with heap := h' }) z' fun h'' z'' sb => ?_⟩
    have hT2 : h''.get? s.heap.objs.size = some { cls := .type "tuple", data := .seq #[u, u2] } := (sb.2 _ (Nat.ne_of_gt hzl)).trans hT
    have new : ObjOk X.prog X.w (upd H s.heap.objs.size (.tup [x, y])) h'' s.heap.objs.size (.tup [x, y]) :=
      ⟨by show 2 ≤ sizeLine; decide, [u, u2], .cons ru (.cons ru2 .nil), ⟨_, hT2, rfl, _, rfl⟩⟩
    have I1 : Inv X pins σ (upd H s.heap.objs.size (.tup [x, y])) { s with heap := h'' } :=
      I.turnedNew (t' := s.toks) (ch := [z, TI, TO, i1, i2]) (fun c o hb q => (sb.2 c (fun q' => hb (by simp [q']))).trans (hk c o (fun q' => hb (by simp [q'])) (fun q' => hb (by simp [q'])) (fun q' => hb (by simp [q'])) (fun q' => hb (by simp [q'])) q)) hf (Nat.le_refl _) new
    refine ⟨.ref s.heap.objs.size, _, I1, rfl, ⟨_, x, y, rfl, I.hok.fresh (Nat.le_refl _), rfl, fun l hl => by rw [I.list_inj hl hqx]; exact hx, fun l hl => by rw [I.list_inj hl hqy]; exact hy⟩, ⟨z'', ?_, ⟨u, u2, ?_⟩, ?_, ?_⟩, fun c hcm => ?_⟩
    · exact (sb.2 _ D.TIz).trans (hk _ _ D.TIz D.TITO D.TIi1 D.TIi2 hTI)
    · exact (sb.2 _ D.TOz).trans TO'
    · exact h1'.at fun o q => (sb.2 _ D.i1z).trans q
    · exact h2'.at fun o q => (sb.2 _ D.i2z).trans q
    · have hlt : c < s.heap.objs.size := by
        have e' : c = z ∨ c = TI ∨ c = TO ∨ c = i1 ∨ c = i2 := by simpa using hcm
        rcases e' with q | q | q | q | q
        · rw [q]; exact hzl
        · rw [q]; exact Heap.lt_size hTI
        · rw [q]; exact Heap.lt_size hTO
        · rw [q]; obtain ⟨_, e1, _⟩ := h1; exact Heap.lt_size e1
        · rw [q]; obtain ⟨_, e2, _⟩ := h2; exact Heap.lt_size e2
      rw [upd_ne (Nat.ne_of_lt hlt)]
      exact (hf c hcm).1
  done := by
    intro X hP hw hK hc i pins s σ H E I hf st hg
    subst hP hw hK
    obtain ⟨hz, hTI, ⟨x0, y0, hTO⟩, h1, h2⟩ := st
    obtain ⟨xs, ys, hqx, hqy, hend⟩ := hg
    obtain ⟨its, rv, p, _⟩ := I.list hqx
    obtain ⟨its2, rv2, p2, _⟩ := I.list hqy
    have l1 := rv.length
    have l2 := rv2.length
    have e1 : its.toArray[i]? = none := by simp; omega
    have e2 : its2.toArray[i]? = none := by simp; omega
    exact pyNext_zipS_end (I.ok.hd hc) D hz hTI hTO h1 h2 p.isList p2.isList e1 e2 fun h' hk => ⟨rfl, I.turnedL (t' := s.toks) (ch := [z, TI, TO, i1, i2]) (fun c o hb q =>
      hk c o (fun q' => hb (by simp [q'])) (fun q' => hb (by simp [q'])) (fun q' => hb (by simp [q'])) (fun q' => hb (by simp [q'])) q) hf⟩
  self := fun A i s Q E st h => pyIter_zipS st.1 h

theorem walk_zipS {K : PySem.W.Frag} {a b : Addr} {xs ys : List V} (hn : xs.length = ys.length) : Walk (ItzS K a b) xs.length (fun H => SqL K H a xs ∧ SqL K H b ys) (YPair (fun i => xs[i]?) (fun i => ys[i]?)) := by
  refine ⟨fun i _ hi q => ?_, fun _ q => ⟨xs, ys, q.1, q.2, Nat.le_refl _, by omega⟩, fun i H v H' _ q y => ?_⟩
  · have h2 : i < ys.length := by omega
    exact ⟨xs, ys, xs[i], ys[i], q.1, q.2, by simp [hi], by simp [h2]⟩
  · obtain ⟨T, x, z, h1, h2, h3, h4, h5⟩ := y
    exact ⟨T, x, z, h1, h2, h3, h4 xs q.1, h5 ys q.2⟩
theorem callWith_type_kw {M : Model} {A : Around} {E : Value → Shared → Prop} {s : Shared} {pos : Pos} {T : String} {first : List Value} {args : List (Bool × Sem Value)} {keywords : List (Option Str × Sem Value)} {Q : Value → Shared → Prop}
    (hplain : args.any (·.1) = false) (hkw : keywords.any (·.1.isNone) = false)
    (h : wpAny M A (evalArgs (.type T) true args keywords) (fun a s₁ => wpAny M A (call (.type T) (first ++ a.pos) a.kw) Q E s₁) E s) :
    wpAny M A (callWith pos (.type T) first args keywords) Q E s := by
  unfold callWith
  refine wpAny_bind (wpAny_holding (wpAny_mono h (fun a s₁ h₁ => wpAny_bind (wpAny_standAt ?_)) fun _ _ x => x))
  simp only [hplain, hkw, Bool.or_false]
  refine wpAny_bind (wpAny_pure ?_)
  exact wpAny_bind (wpAny_mono h₁ (fun r s₂ hr => wpAny_bind (wpAny_holding (wpAny_point (wpAny_pure hr)))) fun _ _ x => x)
def iZipS (K : PySem.W.Frag) (ta : TA) : TI := fun σ H R => ta σ H fun vs H1 => ∃ a b xs ys, vs = [.ref a, .ref b] ∧ SqL K H1 a xs ∧ SqL K H1 b ys ∧ R (ItzS K a b) H1
theorem pi_zipS {X : Cx} {e e2 : Expr} {ta : TA} {p pos tpos cp kp : Pos} {elts : List Expr} {kk : Nat} {n : Nat} (hg : Gl X "zip") (hm : X.mg "zip" = none) (ha : PA X [e, e2] ta)
    (hs : starEach [e, e2] X.env = (false, eval e X.env) :: starEach [e2] X.env := by rfl) (hpl : (backTo pos (starEach [e2] X.env)).any (·.1) = false := by rfl) :
    PI X (.Tuple elts kk tpos) (.Call (.Name "zip" p) [e, e2] [⟨some "strict", .Constant (.bool true) n cp, kp⟩] pos) (iZipS X.K ta) := by
  refine ⟨fun pins s σ H R I h => ?_⟩
  refine wpAny_Call_Name_kw (ld_blt I hg hm PyProof.Rows.boot_zip ?_)
  refine callWith_type_kw (by rw [hs]; show (false || (backTo pos (starEach [e2] X.env)).any (·.1)) = false; rw [hpl]; rfl) rfl (evalArgs_kw2 rfl (thn (ha.run pos pins s σ H _ I h) fun us s1 ⟨vs, H1, I1, r1, q1⟩ => kwAll_cons (Constant_bool (kwAll_nil ?_))) hs)
  obtain ⟨a, b, xs, ys, ex, hqx, hqy, q⟩ := q1
  subst ex
  cases r1 with
  | cons r rr =>
    cases rr with
    | cons r' rr =>
      cases rr
      cases r
      cases r'
      obtain ⟨its, rv, p1, _⟩ := I1.list hqx
      obtain ⟨its2, rv2, p2, _⟩ := I1.list hqy
      have la : a < s1.heap.objs.size := p1.lt
      have lb : b < s1.heap.objs.size := p2.lt
      refine call_zipS p1.isList p2.isList fun h' hz hTI hTO h1 h2 hsz hk => pyIter_zipS hz ?_
      have I2 : Inv X pins σ H1 { s1 with heap := h' } := I1.kept (t' := s1.toks) hk
      refine ⟨s1.heap.objs.size + 4, [s1.heap.objs.size + 4, s1.heap.objs.size + 2, s1.heap.objs.size + 3, s1.heap.objs.size, s1.heap.objs.size + 1], _, _, H1, rfl, I2, turn_zipS (PySem.W.ktu_apart s1.heap.objs.size a b la lb), ⟨hz, hTI, ⟨_, _, hTO⟩, h1, h2⟩, fun c hcm => ?_, q⟩
      have e' : c = s1.heap.objs.size + 4 ∨ c = s1.heap.objs.size + 2 ∨ c = s1.heap.objs.size + 3 ∨ c = s1.heap.objs.size ∨ c = s1.heap.objs.size + 1 := by simpa using hcm
      have hle : s1.heap.objs.size ≤ c := by
        rcases e' with z | z | z | z | z
        · rw [z]; exact Nat.le_add_right _ _
        · rw [z]; exact Nat.le_add_right _ _
        · rw [z]; exact Nat.le_add_right _ _
        · rw [z]; exact Nat.le_refl _
        · rw [z]; exact Nat.le_add_right _ _
      exact I1.fpOk hle (I1.hok.fresh hle)
end Tt
end
section
set_option maxHeartbeats 4000000
namespace Tt
open PySem PySem.Spec PyProof.Rows L2
local macro_rules | `(tactic| walk_at "r") => `(tactic| repeat (first | with_reducible refine ⟨_, rfl, ?_⟩ | refine ⟨_, rfl, ?_⟩ | refine ⟨_, _, rfl, rfl, ?_⟩))
/-! ### webs in the heap -/
def wfs (n m : Int) (ea fa la : Addr) : List (Str × V) := [("own_size", .int n), ("own_edges", .ref ea), ("own_modulus", .int m), ("own_forest", .ref fa), ("links", .ref la)]
theorem wfs_put (n m : Int) (ea fa la : Addr) : putF "links" (.ref la) (putF "own_forest" (.ref fa) (putF "own_modulus" (.int m) (putF "own_edges" (.ref ea) (putF "own_size" (.int n) [])))) = wfs n m ea fa la := by rfl
def WebR (C : Addr) (n : Nat) (m : Int) : Rel Es := fun H v es => ∃ x dx ea fa la, v = .ref x ∧ H x = some (.ins C dx (wfs n m ea fa la)) ∧ ListAt PairR H ea es
theorem m_Web {C : Addr} {n : Nat} {m : Int} : Mono (WebR C n m) := fun H H' v es e ⟨x, dx, ea, fa, la, h1, h2, h3⟩ => ⟨x, dx, ea, fa, la, h1, e _ _ h2, h3.same m_Pair e⟩
section
variable {P : Program} {w : World} {K : PySem.W.Frag} {mg : Str → Option Value} {base : Heap}
def sp_is_integer : Sp := fun vs H Q _ => ∃ i : Int, vs = [.int i] ∧ Q (.bl true) H
theorem ok_is_integer (T : Tx K mg) : FnOk P w K mg base CX0 1 T.is_integer.f T.is_integer.fd N_is_integer_ps sp_is_integer := by
  refine T.is_integer.F.ok sc_is_integer (fun vs H Q E h => ?_) (fun cdv A outer s H vs Q E hr h => ?_)
  · obtain ⟨i, rfl, _⟩ := h; rfl
  · obtain ⟨i, rfl, k⟩ := h
    refine ⟨_, PSs.nox (pss_one (ps_ret (pe_and (pe_callB call_isi (by rfl) T.n_isinstance (by decide +kernel) (pa_cons (pv 0) (pa_cons (pe_bltn (v := .ty "int") (by rfl) T.n_int (by decide +kernel) rfl) pa_nil))) (pe_one (pe_not (pe_callB call_isi (by rfl) T.n_isinstance (by decide +kernel) (pa_cons (pv 0) (pa_cons (pe_bltn (v := .ty "bool") (by rfl) T.n_bool (by decide +kernel) rfl) pa_nil)))))))), ?_⟩
    refine ⟨_, rfl, _, _, _, _, true, rfl, .ty _, .base (.int i), kit_ty (by decide +kernel), _, rfl, iteT ?_⟩
    exact ⟨_, rfl, _, _, _, _, false, rfl, .ty _, .base (.int i), kit_ty (by decide +kernel), _, rfl, k⟩
def sp_is_within : Sp := fun vs H Q _ => ∃ i a b : Int, vs = [.int i, .int a, .int b] ∧ a ≤ i ∧ i ≤ b ∧ Q (.bl true) H
theorem ok_is_within (T : Tx K mg) : FnOk P w K mg base CX0 2 T.is_within.f T.is_within.fd N_is_within_ps sp_is_within := by
  have G_is_integer := ok_is_integer (P := P) (w := w) (base := base) T
  refine T.is_within.F.ok sc_is_within (fun vs H Q E h => ?_) (fun cdv A outer s H vs Q E hr h => ?_)
  · obtain ⟨i, a, b, rfl, _⟩ := h; rfl
  · obtain ⟨i, a, b, rfl, h1, h2, k⟩ := h
    refine ⟨_, PSs.nox (pss_one (ps_ret (pe_and (pe_call G_is_integer (hr.mono (by decide)) rfl T.is_integer.m T.is_integer.F.kp T.is_integer.b .nil pass0 (pa_cons (pv 0) pa_nil)) (pe_one (pe_chain op_le op_le (pv 1) (pv 0) (pv 2)))))), ?_⟩
    refine ⟨_, rfl, _, rfl, _, rfl, iteT ?_⟩
    refine ⟨_, rfl, _, rfl, _, _, rfl, rfl, _, rfl, ?_⟩
    rw [decide_eq_true h1]
    refine iteT ⟨_, rfl, _, _, rfl, rfl, ?_⟩
    show Q (.bl (decide (i ≤ b))) H
    rw [decide_eq_true h2]
    exact k
def sp_is_edge : Sp := fun vs H Q _ => ∃ (t : Addr) (n a b : Int), vs = [.ref t, .int n] ∧ H t = some (.tup [.int a, .int b]) ∧ (0 ≤ a ∧ a < n) ∧ (0 ≤ b ∧ b < n) ∧ Q (.bl true) H
theorem ok_is_edge (T : Tx K mg) : FnOk P w K mg base CX0 3 T.is_edge.f T.is_edge.fd N_is_edge_ps sp_is_edge := by
  have G_is_within := ok_is_within (P := P) (w := w) (base := base) T
  refine T.is_edge.F.ok sc_is_edge (fun vs H Q E h => ?_) (fun cdv A outer s H vs Q E hr h => ?_)
  · obtain ⟨t, n, a, b, rfl, _⟩ := h; rfl
  · obtain ⟨t, n, a, b, rfl, ht, ha, hb, k⟩ := h
    refine ⟨_, PSs.nox (pss_cons (ps_if (PW.pt (pw_or (pt_not (pt_val (pe_callB call_isi (by rfl) T.n_isinstance (by decide +kernel) (pa_cons (pv 0) (pa_cons (pe_bltn (v := .ty "tuple") (by rfl) T.n_tuple (by decide +kernel) rfl) pa_nil))))) (pw_or1 (pt_cmpR op_ne (pe_callB call_len_seq (by rfl) T.n_len (by decide +kernel) (pa_cons (pv 0) pa_nil)) pe_int (nomark _))))) (pss_one (ps_ret pe_bl)) pss_nil)
      (pss_one (ps_ret (pe_and (pe_call G_is_within (hr.mono (by decide)) rfl T.is_within.m T.is_within.F.kp T.is_within.b .nil pass0 (pa_cons (pe_ix ix_tup (pv 0) pe_int (fun _ _ => rfl)) (pa_cons pe_int (pa_cons (pe_op op_sub (pv 1) pe_int) pa_nil)))) (pe_one (pe_call G_is_within (hr.mono (by decide)) rfl T.is_within.m T.is_within.F.kp T.is_within.b .nil pass0 (pa_cons (pe_ix ix_tup (pv 0) pe_int (fun _ _ => rfl)) (pa_cons pe_int (pa_cons (pe_op op_sub (pv 1) pe_int) pa_nil))))))))), ?_⟩
    refine ⟨_, rfl, _, _, _, _, true, rfl, .ty _, .base (.tup ht), kit_ty (by decide +kernel), _, rfl, iteF ?_⟩
    refine ⟨_, rfl, _, _, rfl, .inr (SqT.of ht), rfl, _, rfl, iteF ?_⟩
    refine ⟨_, rfl, _, _, _, _, rfl, rfl, SqT.of ht, atI_nat (j := 0) rfl, _, rfl, _, _, rfl, rfl, _, _, _, rfl, ha.1, by omega, _, rfl, iteT ?_⟩
    exact ⟨_, rfl, _, _, _, _, rfl, rfl, SqT.of ht, atI_nat (j := 1) rfl, _, rfl, _, _, rfl, rfl, _, _, _, rfl, hb.1, by omega, k⟩
def sp_is_modulus : Sp := fun vs H Q _ => ∃ m : Int, vs = [.int m] ∧ ModOk m ∧ Q (.bl true) H
theorem ok_is_modulus (T : Tx K mg) : FnOk P w K mg base CX0 3 T.is_modulus.f T.is_modulus.fd N_is_modulus_ps sp_is_modulus := by
  have G_is_within := ok_is_within (P := P) (w := w) (base := base) T
  refine T.is_modulus.F.ok sc_is_modulus (fun vs H Q E h => ?_) (fun cdv A outer s H vs Q E hr h => ?_)
  · obtain ⟨m, rfl, _⟩ := h; rfl
  · obtain ⟨m, rfl, hm, k⟩ := h
    refine ⟨_, PSs.nox (pss_one (ps_ret (pe_and (pe_call G_is_within (hr.mono (by decide)) rfl T.is_within.m T.is_within.F.kp T.is_within.b .nil pass0 (pa_cons (pv 0) (pa_cons pe_int (pa_cons (pe_glob (v := .int 60) rfl T.g_MOST_MODULUS ⟨_, rfl⟩) pa_nil)))) (pe_one (pe_cmpR op_ne (pv 0) pe_int (nomark _)))))), ?_⟩
    refine ⟨_, rfl, _, _, _, rfl, hm.nn, (by rcases hm with h | h <;> omega), _, rfl, iteT ⟨_, rfl, rfl, ?_⟩⟩
    have e : (!decide (V.int m = V.int 1)) = true := by
      have h1 : ¬ V.int m = V.int 1 := fun z => by
        have := V.int.inj z
        rcases hm with h | h <;> omega
      rw [decide_eq_false h1]; rfl
    show Q (.bl (!decide (V.int m = V.int 1))) H
    rw [e]
    exact k
def sp_check_edges : Sp := fun vs H Q _ => ∃ (n : Nat) (a : Addr) (es : Es), vs = [.int n, .ref a] ∧ ListAt PairR H a es ∧ EdOk n es ∧ es.length ≤ 60 ∧ ∀ H', Same H H' → Q .non H'
theorem ok_check_edges (T : Tx K mg) : FnOk P w K mg base CX0 4 T.check_edges.f T.check_edges.fd N_check_edges_ps sp_check_edges := by
  have G_is_edge := ok_is_edge (P := P) (w := w) (base := base) T
  refine T.check_edges.F.ok sc_check_edges (fun vs H Q E h => ?_) (fun cdv A outer s H vs Q E hr h => ?_)
  · obtain ⟨n, a, es, rfl, _⟩ := h; rfl
  · obtain ⟨n, a, es, rfl, ha, hes, hl, k⟩ := h
    obtain ⟨xs, h1, h2⟩ := id ha
    refine ⟨_, PSs.nox (pss_cons (ps_if (pt_not (pt_val (pe_callB call_isiT (by rfl) T.n_isinstance (by decide +kernel) (pa_cons (pv 1) (pa_cons (pe_tup (pa_cons (pe_bltn (v := .ty "list") (by rfl) T.n_list (by decide +kernel) rfl) (pa_cons (pe_bltn (v := .ty "tuple") (by rfl) T.n_tuple (by decide +kernel) rfl) pa_nil))) pa_nil))))) (pss_one ps_never) pss_nil)
      (pss_cons (ps_for PassesOwn.never rfl (pi_list (pv 1)) (pg_name (i := 2) sc_check_edges.nd rfl (by first | exact Or.inl rfl | exact Or.inr rfl))
        (pss_one (ps_if (pt_not (pt_val (pe_call G_is_edge (hr.mono (by decide)) rfl T.is_edge.m T.is_edge.F.kp T.is_edge.b .nil pass0 (pa_cons (pv 2) (pa_cons (pv 0) pa_nil))))) (pss_one ps_never) pss_nil)))
      (pss_one (ps_if (pt_cmpR op_gt (pe_callB call_len_seq (by rfl) T.n_len (by decide +kernel) (pa_cons (pv 1) pa_nil)) (pe_glob (v := .int 60) rfl T.g_MOST_EDGES ⟨_, rfl⟩) (nomark _)) (pss_one ps_never) pss_nil)))), ?_⟩
    refine ⟨_, rfl, (by show 2 ≤ sizeLine; decide), fun p hp => ?_⟩
    have s1 : Same H (upd H p (.tup [.ty "list", .ty "tuple"])) := Same.new hp
    refine ⟨_, _, _, _, _, true, rfl, upd_same, .cons (.ty _) (.cons (.ty _) .nil), .base (.lst (s1 _ _ h1)), kitAny_cons (kit_ty (r := true) (by decide +kernel)) (fun z => nomatch z) (fun _ => rfl), _, rfl, iteF ?_⟩
    refine ⟨_, rfl, a, rfl, ⟨_, SqL.of (s1 _ _ h1)⟩, for_list (K := K) (a := a) (xs := xs) (fun i σ H2 => ∃ v, σ = [some (.int n), some (.ref a), v] ∧ Same H H2) ⟨none, rfl, s1⟩ (fun i σ H2 _ ⟨_, _, e⟩ => SqL.of (e _ _ h1)) ?_ ?_⟩
    · rintro i x σ H2 hi ⟨v, rfl, s2⟩
      obtain ⟨e, he, t, rfl, ht⟩ := Paired.at2 h2 hi
      obtain ⟨b1, b2⟩ := hes e (List.mem_of_getElem? he)
      exact ⟨_, rfl, _, rfl, t, _, _, _, rfl, s2 _ _ ht, by omega, by omega, _, rfl, iteF ⟨_, rfl, s2⟩⟩
    · rintro σ H2 ⟨v, rfl, s2⟩
      refine ⟨_, rfl, _, _, rfl, .inl (SqL.of (s2 _ _ h1)), _, _, rfl, rfl, _, rfl, ?_⟩
      have hx := Paired.length h2
      refine ite2 (fun c => ?_) (fun _ => k _ s2)
      have c := of_decide_eq_true c
      omega
def sp_Web_size (C : Addr) : Sp := fun vs H Q _ => ∃ (x : V) (n : Nat) (m : Int) (es : Es), vs = [x] ∧ WebR C n m H x es ∧ Q (.int n) H
theorem ok_Web_size (T : Tx K mg) : FnOk P w K mg base CX0 1 T.Web_size.f T.Web_size.fd N_Web_size_ps (sp_Web_size T.Web) := by
  refine T.Web_size.F.ok sc_Web_size (fun vs H Q E h => ?_) (fun cdv A outer s H vs Q E hr h => ?_)
  · obtain ⟨x, n, m, es, rfl, _⟩ := h; rfl
  · obtain ⟨_, n, m, es, rfl, ⟨x, dx, ea, fa, la, rfl, h1, h2⟩, k⟩ := h
    refine ⟨_, PSs.nox (pss_one (ps_ret (pe_fld (pv 0) rfl))), ?_⟩
    exact ⟨_, rfl, x, _, dx, _, _, rfl, h1, T.cl_Web, T.na_Web_own_size, rfl, k⟩
def sp_Web_modulus (C : Addr) : Sp := fun vs H Q _ => ∃ (x : V) (n : Nat) (m : Int) (es : Es), vs = [x] ∧ WebR C n m H x es ∧ Q (.int m) H
theorem ok_Web_modulus (T : Tx K mg) : FnOk P w K mg base CX0 1 T.Web_modulus.f T.Web_modulus.fd N_Web_modulus_ps (sp_Web_modulus T.Web) := by
  refine T.Web_modulus.F.ok sc_Web_modulus (fun vs H Q E h => ?_) (fun cdv A outer s H vs Q E hr h => ?_)
  · obtain ⟨x, n, m, es, rfl, _⟩ := h; rfl
  · obtain ⟨_, n, m, es, rfl, ⟨x, dx, ea, fa, la, rfl, h1, h2⟩, k⟩ := h
    refine ⟨_, PSs.nox (pss_one (ps_ret (pe_fld (pv 0) rfl))), ?_⟩
    exact ⟨_, rfl, x, _, dx, _, _, rfl, h1, T.cl_Web, T.na_Web_own_modulus, rfl, k⟩
def sp_Web_edges (C : Addr) : Sp := fun vs H Q _ => ∃ (x : V) (n : Nat) (m : Int) (es : Es), vs = [x] ∧ WebR C n m H x es ∧ ∀ H' a, Same H H' → H a = none → ListAt PairR H' a es → Q (.ref a) H'
theorem ok_Web_edges (T : Tx K mg) : FnOk P w K mg base CX0 1 T.Web_edges.f T.Web_edges.fd N_Web_edges_ps (sp_Web_edges T.Web) := by
  refine T.Web_edges.F.ok sc_Web_edges (fun vs H Q E h => ?_) (fun cdv A outer s H vs Q E hr h => ?_)
  · obtain ⟨x, n, m, es, rfl, _⟩ := h; rfl
  · obtain ⟨_, n, m, es, rfl, ⟨x, dx, ea, fa, la, rfl, h1, h2⟩, k⟩ := h
    obtain ⟨xs, h3, h4⟩ := h2
    refine ⟨_, PSs.nox (pss_one (ps_ret (pe_callTy call_list_of (by rfl) T.n_list (by decide +kernel) (pa_cons (pe_fld (pv 0) rfl) pa_nil)))), ?_⟩
    refine ⟨_, rfl, x, _, dx, _, _, rfl, h1, T.cl_Web, T.na_Web_own_edges, rfl, ea, xs, rfl, .inl (SqL.of h3), fun l hl => k _ l (Same.new hl) hl ⟨xs, upd_same, Paired.mono m_Pair (Same.new hl) h4⟩⟩
def sp_Web_len (C : Addr) : Sp := fun vs H Q _ => ∃ (x : V) (n : Nat) (m : Int) (es : Es), vs = [x] ∧ WebR C n m H x es ∧ Q (.int es.length) H
theorem ok_Web_len (T : Tx K mg) : FnOk P w K mg base CX0 1 T.Web_len.f T.Web_len.fd N_Web_len_ps (sp_Web_len T.Web) := by
  refine T.Web_len.F.ok sc_Web_len (fun vs H Q E h => ?_) (fun cdv A outer s H vs Q E hr h => ?_)
  · obtain ⟨x, n, m, es, rfl, _⟩ := h; rfl
  · obtain ⟨_, n, m, es, rfl, ⟨x, dx, ea, fa, la, rfl, h1, h2⟩, k⟩ := h
    obtain ⟨xs, h3, h4⟩ := h2
    refine ⟨_, PSs.nox (pss_one (ps_ret (pe_callB call_len_seq (by rfl) T.n_len (by decide +kernel) (pa_cons (pe_fld (pv 0) rfl) pa_nil)))), ?_⟩
    rw [← Paired.length h4] at k
    exact ⟨_, rfl, x, _, dx, _, _, rfl, h1, T.cl_Web, T.na_Web_own_edges, rfl, ea, xs, rfl, .inl (SqL.of h3), k⟩
end
end Tt
end
section
set_option maxHeartbeats 4000000
namespace Tt
open PySem PySem.Spec PyProof.Rows L2
/-- residues in a list -/
structure ResAt (m : Int) (H : Hp) (a : Addr) (gs : List Int) : Prop where
  at_ : H a = some (.lst (gs.map V.int))
  res : ∀ g ∈ gs, Res m g
theorem ResAt.same {m : Int} {H H' : Hp} {a : Addr} {gs : List Int} (h : ResAt m H a gs) (e : Same H H') : ResAt m H' a gs := ⟨e _ _ h.at_, h.res⟩
def ledOf (m : Int) (es : Es) (gs ps : List Int) : List Int := List.zipWith (fun g e => red m (g + fn ps e.1 - fn ps e.2)) gs es
def potOf (m : Int) (n : Nat) (ds : List (Nat × Int)) : List Int := ds.foldl (fun f d => f.set d.1 (red m (fn f d.1 + d.2))) (List.replicate n 0)
theorem potOf_snoc (m : Int) (n : Nat) (ds : List (Nat × Int)) (d : Nat × Int) : potOf m n (ds ++ [d]) = (potOf m n ds).set d.1 (red m (fn (potOf m n ds) d.1 + d.2)) := by
  unfold potOf
  rw [List.foldl_append]
  rfl
theorem potOf_len (m : Int) (n : Nat) (ds : List (Nat × Int)) : (potOf m n ds).length = n := by
  have : ∀ (ds : List (Nat × Int)) (f : List Int), (ds.foldl (fun f d => f.set d.1 (red m (fn f d.1 + d.2))) f).length = f.length := by
    intro ds
    induction ds with
    | nil => intro f; rfl
    | cons d ds ih => intro f; rw [List.foldl_cons, ih, List.length_set]
  unfold potOf
  rw [this, List.length_replicate]
theorem take_snoc {α : Type} {l : List α} {i : Nat} {x : α} (h : l[i]? = some x) : l.take (i + 1) = l.take i ++ [x] := by
  rw [List.take_add_one, h]; rfl
theorem zipWith_take {α β γ : Type} (f : α → β → γ) {xs : List α} {ys : List β} {i : Nat} {x : α} {y : β} (hx : xs[i]? = some x) (hy : ys[i]? = some y) :
    (List.zipWith f xs ys).take (i + 1) = (List.zipWith f xs ys).take i ++ [f x y] := take_snoc (by rw [List.getElem?_zipWith, hx, hy])
theorem fn_get {l : List Int} {v : Nat} (h : v < l.length) : l[v]? = some (fn l v) := by
  rw [List.getElem?_eq_getElem h]
  exact congrArg some (fn_at (List.getElem?_eq_getElem h)).symm
theorem ints_at {l : List Int} {v : Nat} (h : v < l.length) : atI (l.map V.int) ((v : Nat) : Int) = some (V.int (fn l v)) := atI_nat (by rw [List.getElem?_map, fn_get h]; rfl)
theorem ints_set (l : List Int) (v : Nat) (x : Int) : (l.map V.int).set v (.int x) = (l.set v x).map V.int := by rw [List.map_set]
theorem rep_ints (n : Nat) : (List.replicate n [V.int 0]).flatten = (List.replicate n (0 : Int)).map V.int := by
  induction n with
  | zero => rfl
  | succ n ih => rw [List.replicate_succ, List.replicate_succ, List.flatten_cons, ih]; rfl
section
variable {P : Program} {w : World} {K : PySem.W.Frag} {mg : Str → Option Value} {base : Heap}
def sp_check_node (C : Addr) : Sp := fun vs H Q _ => ∃ (x : V) (i : Int) (n : Nat) (m : Int) (es : Es), vs = [x, .int i] ∧ WebR C n m H x es ∧ 0 ≤ i ∧ i < n ∧ Q .non H
theorem ok_check_node (T : Tx K mg) : FnOk P w K mg base CX0 3 T.check_node.f T.check_node.fd N_check_node_ps (sp_check_node T.Web) := by
  have G_Web_size := ok_Web_size (P := P) (w := w) (base := base) T
  have G_is_within := ok_is_within (P := P) (w := w) (base := base) T
  refine T.check_node.F.ok sc_check_node (fun vs H Q E h => ?_) (fun cdv A outer s H vs Q E hr h => ?_)
  · obtain ⟨x, i, n, m, es, rfl, hW, h0, h1, k⟩ := h
    rfl
  · obtain ⟨x, i, n, m, es, rfl, hW, h0, h1, k⟩ := h
    have hu := hu_of hr
    refine ⟨_, PSs.nox (pss_one (ps_if (pt_not (pt_val (pe_call G_is_within (hr.mono (by decide)) rfl T.is_within.m T.is_within.F.kp T.is_within.b .nil pass0 (pa_cons (pv 1) (pa_cons pe_int (pa_cons (pe_op op_sub (pe_meth0 (pv 0) T.cl_Web T.Web_size.m G_Web_size (hr.mono (by decide)) T.Web_size.b .nil pass0) pe_int) pa_nil)))))) (pss_one ps_never) pss_nil)), ?_⟩
    obtain ⟨x0, dx, ea, fa, la, rfl, g1, g2⟩ := id hW
    refine ⟨_, rfl, _, rfl, x0, dx, _, rfl, g1, rfl, _, n, m, es, rfl, hW, _, _, rfl, rfl, ?_⟩
    exact ⟨i, 0, _, rfl, h0, by omega, _, rfl, iteF k⟩
def sp_residue (C : Addr) : Sp := fun vs H Q _ => ∃ (x : V) (i : Int) (n : Nat) (m : Int) (es : Es), vs = [x, .int i] ∧ WebR C n m H x es ∧ Q (.int (red m i)) H
theorem ok_residue (T : Tx K mg) : FnOk P w K mg base CX0 2 T.residue.f T.residue.fd N_residue_ps (sp_residue T.Web) := by
  have G_Web_modulus := ok_Web_modulus (P := P) (w := w) (base := base) T
  have G_is_integer := ok_is_integer (P := P) (w := w) (base := base) T
  have G_reduced_number := ok_reduced_number (P := P) (w := w) (base := base) T
  refine T.residue.F.ok sc_residue (fun vs H Q E h => ?_) (fun cdv A outer s H vs Q E hr h => ?_)
  · obtain ⟨x, i, n, m, es, rfl, hW, k⟩ := h
    rfl
  · obtain ⟨x, i, n, m, es, rfl, hW, k⟩ := h
    have hu := hu_of hr
    refine ⟨_, PSs.nox (pss_cons (ps_if (pt_not (pt_val (pe_call G_is_integer (hr.mono (by decide)) rfl T.is_integer.m T.is_integer.F.kp T.is_integer.b .nil pass0 (pa_cons (pv 1) pa_nil)))) (pss_one ps_never) pss_nil)
      (pss_one (ps_ret (pe_call G_reduced_number (hr.mono (by decide)) rfl T.reduced_number.m T.reduced_number.F.kp T.reduced_number.b .nil pass0 (pa_cons (pv 1) (pa_cons (pe_meth0 (pv 0) T.cl_Web T.Web_modulus.m G_Web_modulus (hr.mono (by decide)) T.Web_modulus.b .nil pass0) pa_nil)))))), ?_⟩
    obtain ⟨x0, dx, ea, fa, la, rfl, g1, g2⟩ := id hW
    refine ⟨_, rfl, i, rfl, _, rfl, iteF ?_⟩
    exact ⟨_, rfl, _, rfl, x0, dx, _, rfl, g1, rfl, _, n, m, es, rfl, hW, i, m, rfl, k⟩
def sp_is_residue (C : Addr) : Sp := fun vs H Q _ => ∃ (x : V) (i : Int) (n : Nat) (m : Int) (es : Es), vs = [x, .int i] ∧ WebR C n m H x es ∧ ModOk m ∧ Res m i ∧ Q (.bl true) H
theorem ok_is_residue (T : Tx K mg) : FnOk P w K mg base CX0 3 T.is_residue.f T.is_residue.fd N_is_residue_ps (sp_is_residue T.Web) := by
  have G_Web_modulus := ok_Web_modulus (P := P) (w := w) (base := base) T
  have G_is_integer := ok_is_integer (P := P) (w := w) (base := base) T
  have G_is_within := ok_is_within (P := P) (w := w) (base := base) T
  refine T.is_residue.F.ok sc_is_residue (fun vs H Q E h => ?_) (fun cdv A outer s H vs Q E hr h => ?_)
  · obtain ⟨x, i, n, m, es, rfl, hW, hm, hi, k⟩ := h
    rfl
  · obtain ⟨x, i, n, m, es, rfl, hW, hm, hi, k⟩ := h
    have hu := hu_of hr
    refine ⟨_, PSs.nox (pss_cons (ps_if (pt_cmpR op_eq (pe_meth0 (pv 0) T.cl_Web T.Web_modulus.m G_Web_modulus (hr.mono (by decide)) T.Web_modulus.b .nil pass0) pe_int (nomark _)) (pss_one (ps_ret (pe_call G_is_integer (hr.mono (by decide)) rfl T.is_integer.m T.is_integer.F.kp T.is_integer.b .nil pass0 (pa_cons (pv 1) pa_nil)))) pss_nil)
      (pss_one (ps_ret (pe_call G_is_within (hr.mono (by decide)) rfl T.is_within.m T.is_within.F.kp T.is_within.b .nil pass0 (pa_cons (pv 1) (pa_cons pe_int (pa_cons (pe_op op_sub (pe_meth0 (pv 0) T.cl_Web T.Web_modulus.m G_Web_modulus (hr.mono (by decide)) T.Web_modulus.b .nil pass0) pe_int) pa_nil))))))), ?_⟩
    obtain ⟨x0, dx, ea, fa, la, rfl, g1, g2⟩ := id hW
    refine ⟨_, rfl, x0, dx, _, rfl, g1, rfl, _, n, m, es, rfl, hW, rfl, _, rfl, ?_⟩
    refine ite2 (fun _ => ⟨_, rfl, i, rfl, k⟩) (fun c => ?_)
    have hp : 0 < m := by
      rcases hm with e | e
      · exact absurd (decide_eq_true (congrArg V.int e)) c
      · omega
    have hi := hi hp
    refine ⟨_, rfl, _, rfl, x0, dx, _, rfl, g1, rfl, _, n, m, es, rfl, hW, _, _, rfl, rfl, ?_⟩
    exact ⟨i, 0, _, rfl, hi.1, by omega, k⟩
def sp_are_residues (C : Addr) : Sp := fun vs H Q _ => ∃ (x : V) (a : Addr) (gs : List Int) (n : Nat) (m : Int) (es : Es), vs = [x, .ref a, .int gs.length] ∧ WebR C n m H x es ∧ ModOk m ∧ ResAt m H a gs ∧ gs.length ≤ 1000 ∧ ∀ H', Same H H' → Q (.bl true) H'
theorem ok_are_residues (T : Tx K mg) : FnOk P w K mg base CX0 4 T.are_residues.f T.are_residues.fd N_are_residues_ps (sp_are_residues T.Web) := by
  have G_is_residue := ok_is_residue (P := P) (w := w) (base := base) T
  refine T.are_residues.F.ok sc_are_residues (fun vs H Q E h => ?_) (fun cdv A outer s H vs Q E hr h => ?_)
  · obtain ⟨x, a, gs, n, m, es, rfl, hW, hm, hg, hl, k⟩ := h
    rfl
  · obtain ⟨x, a, gs, n, m, es, rfl, hW, hm, hg, hl, k⟩ := h
    have hu := hu_of hr
    refine ⟨_, PSs.nox (pss_one (ps_ret (pe_and (pe_callB call_isi (by rfl) T.n_isinstance (by decide +kernel) (pa_cons (pv 1) (pa_cons (pe_bltn (v := .ty "list") (by rfl) T.n_list (by decide +kernel) rfl) pa_nil))) (pe_and (pe_cmpR op_eq (pe_callB call_len_seq (by rfl) T.n_len (by decide +kernel) (pa_cons (pv 1) pa_nil)) (pv 2) (nomark _)) (pe_one (pe_callB (cr_all rfl) (by rfl) T.n_all (by decide +kernel) (pa_cons (pe_lc (own := [("one", 3)]) (g := gName 3) (tt := tYes) rfl sc_are_residues.nd (pi_list (pv 1)) (blkOk_by (N := N_are_residues) (sc := defScope (top 36)) (by decide +kernel)) (fun _ _ _ _ _ => (pg_name (i := 3) sc_are_residues.nd rfl (by first | exact Or.inl rfl | exact Or.inr rfl))) (fun _ _ _ _ _ => pts_nil) (fun _ _ _ _ _ => (pe_call G_is_residue (hr.mono (by decide)) rfl T.is_residue.m T.is_residue.F.kp T.is_residue.b .nil pass0 (pa_cons (pv 0) (pa_cons (pv 3) pa_nil))))) pa_nil))))))), ?_⟩
    have hg1 := hg.at_
    refine ⟨_, rfl, _, _, _, _, true, rfl, .ty _, .base (.lst hg1), kit_ty (by decide +kernel), _, rfl, iteT ?_⟩
    have e1 : decide (V.int ((gs.map V.int).length : Int) = V.int (gs.length : Int)) = true := decide_eq_true (by rw [List.length_map])
    refine ⟨_, rfl, a, gs.map V.int, rfl, .inl (SqL.of hg1), _, rfl, rfl, _, rfl, ?_⟩
    rw [e1]
    refine iteT ⟨_, rfl, a, rfl, ⟨_, SqL.of hg1⟩, fun D hD => ?_⟩
    refine lc_list (K := K) (a := a) (xs := gs.map V.int) (fun i H2 => Same H H2 ∧ H2 D = some (.lst ((List.replicate i true).map V.bl))) ⟨Same.new hD, upd_same⟩ (fun i H2 _ ⟨e, _⟩ => SqL.of (e _ _ hg1)) ?_ ?_
    · rintro i y H2 hi ⟨e, h2⟩
      obtain ⟨g, hgi, rfl⟩ : ∃ g, gs[i]? = some g ∧ y = V.int g := by
        rw [List.getElem?_map] at hi
        cases q : gs[i]? with
        | none => rw [q] at hi; cases hi
        | some g => rw [q] at hi; exact ⟨g, rfl, (Option.some.inj hi).symm⟩
      have hil : i < gs.length := (List.getElem?_eq_some_iff.mp hgi).1
      refine ⟨rfl, ?_⟩
      refine ⟨_, rfl, _, rfl, x, g, n, m, es, rfl, m_Web _ _ _ _ e hW, hm, hg.res g (List.mem_of_getElem? hgi), _, h2, ?_, ?_, ?_⟩
      · rw [List.length_map, List.length_replicate]; exact szl _
      · exact Same.mut e hD
      · rw [upd_same, List.replicate_succ', List.map_append]; rfl
    · rintro H2 ⟨e, h2⟩
      refine ⟨D, _, rfl, SqL.of h2, ?_⟩
      rw [List.length_map]
      have e3 : (List.replicate gs.length true).all id = true := by simp
      rw [e3]
      exact k H2 e
def sp_is_gains (C : Addr) : Sp := fun vs H Q _ => ∃ (x : V) (a : Addr) (gs : List Int) (n : Nat) (m : Int) (es : Es), vs = [x, .ref a] ∧ WebR C n m H x es ∧ ModOk m ∧ ResAt m H a gs ∧ gs.length = es.length ∧ gs.length ≤ 1000 ∧ ∀ H', Same H H' → Q (.bl true) H'
theorem ok_is_gains (T : Tx K mg) : FnOk P w K mg base CX0 5 T.is_gains.f T.is_gains.fd N_is_gains_ps (sp_is_gains T.Web) := by
  have G_Web_len := ok_Web_len (P := P) (w := w) (base := base) T
  have G_are_residues := ok_are_residues (P := P) (w := w) (base := base) T
  refine T.is_gains.F.ok sc_is_gains (fun vs H Q E h => ?_) (fun cdv A outer s H vs Q E hr h => ?_)
  · obtain ⟨x, a, gs, n, m, es, rfl, hW, hm, hg, he, hl, k⟩ := h
    rfl
  · obtain ⟨x, a, gs, n, m, es, rfl, hW, hm, hg, he, hl, k⟩ := h
    have hu := hu_of hr
    refine ⟨_, PSs.nox (pss_one (ps_ret (pe_call G_are_residues (hr.mono (by decide)) rfl T.are_residues.m T.are_residues.F.kp T.are_residues.b .nil pass0 (pa_cons (pv 0) (pa_cons (pv 1) (pa_cons (pe_callB (cr_lenI G_Web_len T.Web_len.m T.Web_len.b pass0 (hr.mono (by decide))) (by rfl) T.n_len (by decide +kernel) (pa_cons (pv 0) pa_nil)) pa_nil)))))), ?_⟩
    obtain ⟨x0, dx, ea, fa, la, rfl, h1, h2⟩ := id hW
    refine ⟨_, rfl, _, rfl, _, rfl, x0, dx, _, rfl, h1, _, n, m, es, rfl, hW, _, rfl, by omega, by omega, ?_⟩
    rw [← he]
    exact ⟨_, a, gs, n, m, es, rfl, hW, hm, hg, hl, k⟩
def sp_is_potential (C : Addr) : Sp := fun vs H Q _ => ∃ (x : V) (a : Addr) (gs : List Int) (n : Nat) (m : Int) (es : Es), vs = [x, .ref a] ∧ WebR C n m H x es ∧ ModOk m ∧ ResAt m H a gs ∧ gs.length = n ∧ gs.length ≤ 1000 ∧ ∀ H', Same H H' → Q (.bl true) H'
theorem ok_is_potential (T : Tx K mg) : FnOk P w K mg base CX0 5 T.is_potential.f T.is_potential.fd N_is_potential_ps (sp_is_potential T.Web) := by
  have G_Web_size := ok_Web_size (P := P) (w := w) (base := base) T
  have G_are_residues := ok_are_residues (P := P) (w := w) (base := base) T
  refine T.is_potential.F.ok sc_is_potential (fun vs H Q E h => ?_) (fun cdv A outer s H vs Q E hr h => ?_)
  · obtain ⟨x, a, gs, n, m, es, rfl, hW, hm, hg, he, hl, k⟩ := h
    rfl
  · obtain ⟨x, a, gs, n, m, es, rfl, hW, hm, hg, he, hl, k⟩ := h
    have hu := hu_of hr
    refine ⟨_, PSs.nox (pss_one (ps_ret (pe_call G_are_residues (hr.mono (by decide)) rfl T.are_residues.m T.are_residues.F.kp T.are_residues.b .nil pass0 (pa_cons (pv 0) (pa_cons (pv 1) (pa_cons (pe_meth0 (pv 0) T.cl_Web T.Web_size.m G_Web_size (hr.mono (by decide)) T.Web_size.b .nil pass0) pa_nil)))))), ?_⟩
    obtain ⟨x0, dx, ea, fa, la, rfl, h1, h2⟩ := id hW
    refine ⟨_, rfl, _, rfl, _, rfl, x0, dx, _, rfl, h1, by rfl, _, n, m, es, rfl, hW, ?_⟩
    rw [← he]
    exact ⟨_, a, gs, gs.length, m, es, rfl, he ▸ hW, hm, hg, hl, k⟩
def sp_check_gains (C : Addr) : Sp := fun vs H Q _ => ∃ (x : V) (a : Addr) (gs : List Int) (n : Nat) (m : Int) (es : Es), vs = [x, .ref a] ∧ WebR C n m H x es ∧ ModOk m ∧ ResAt m H a gs ∧ gs.length = es.length ∧ gs.length ≤ 1000 ∧ ∀ H', Same H H' → Q .non H'
theorem ok_check_gains (T : Tx K mg) : FnOk P w K mg base CX0 6 T.check_gains.f T.check_gains.fd N_check_gains_ps (sp_check_gains T.Web) := by
  have G_is_gains := ok_is_gains (P := P) (w := w) (base := base) T
  refine T.check_gains.F.ok sc_check_gains (fun vs H Q E h => ?_) (fun cdv A outer s H vs Q E hr h => ?_)
  · obtain ⟨x, a, gs, n, m, es, rfl, hW, hm, hg, he, hl, k⟩ := h
    rfl
  · obtain ⟨x, a, gs, n, m, es, rfl, hW, hm, hg, he, hl, k⟩ := h
    have hu := hu_of hr
    refine ⟨_, PSs.nox (pss_one (ps_if (pt_not (pt_val (pe_call G_is_gains (hr.mono (by decide)) rfl T.is_gains.m T.is_gains.F.kp T.is_gains.b .nil pass0 (pa_cons (pv 0) (pa_cons (pv 1) pa_nil))))) (pss_one ps_never) pss_nil)), ?_⟩
    exact ⟨_, rfl, _, rfl, x, a, gs, n, m, es, rfl, hW, hm, hg, he, hl, fun H' e => ⟨_, rfl, iteF (k H' e)⟩⟩
def sp_check_potential (C : Addr) : Sp := fun vs H Q _ => ∃ (x : V) (a : Addr) (gs : List Int) (n : Nat) (m : Int) (es : Es), vs = [x, .ref a] ∧ WebR C n m H x es ∧ ModOk m ∧ ResAt m H a gs ∧ gs.length = n ∧ gs.length ≤ 1000 ∧ ∀ H', Same H H' → Q .non H'
theorem ok_check_potential (T : Tx K mg) : FnOk P w K mg base CX0 6 T.check_potential.f T.check_potential.fd N_check_potential_ps (sp_check_potential T.Web) := by
  have G_is_potential := ok_is_potential (P := P) (w := w) (base := base) T
  refine T.check_potential.F.ok sc_check_potential (fun vs H Q E h => ?_) (fun cdv A outer s H vs Q E hr h => ?_)
  · obtain ⟨x, a, gs, n, m, es, rfl, hW, hm, hg, he, hl, k⟩ := h
    rfl
  · obtain ⟨x, a, gs, n, m, es, rfl, hW, hm, hg, he, hl, k⟩ := h
    have hu := hu_of hr
    refine ⟨_, PSs.nox (pss_one (ps_if (pt_not (pt_val (pe_call G_is_potential (hr.mono (by decide)) rfl T.is_potential.m T.is_potential.F.kp T.is_potential.b .nil pass0 (pa_cons (pv 0) (pa_cons (pv 1) pa_nil))))) (pss_one ps_never) pss_nil)), ?_⟩
    exact ⟨_, rfl, _, rfl, x, a, gs, n, m, es, rfl, hW, hm, hg, he, hl, fun H' e => ⟨_, rfl, iteF (k H' e)⟩⟩
end
end Tt
end
section
set_option maxHeartbeats 4000000
namespace Tt
open PySem PySem.Spec PyProof.Rows L2
theorem ixN_nat {n v : Nat} (h : v < n) (hn : n ≤ 100000 := by omega) : ixN n ((v : Nat) : Int) = some v := by
  unfold ixN
  simp
  omega
theorem map_at {l : List Int} {i : Nat} {y : V} (h : (l.map V.int)[i]? = some y) : ∃ g, l[i]? = some g ∧ y = V.int g := by
  rw [List.getElem?_map] at h
  cases q : l[i]? with
  | none => rw [q] at h; cases h
  | some g => rw [q] at h; exact ⟨g, rfl, (Option.some.inj h).symm⟩
section
variable {P : Program} {w : World} {K : PySem.W.Frag} {mg : Str → Option Value} {base : Heap}
def sp_switched (C : Addr) : Sp := fun vs H Q _ => ∃ (x : V) (ga pa : Addr) (gs ps : List Int) (n : Nat) (m : Int) (es : Es), vs = [x, .ref ga, .ref pa] ∧ WebR C n m H x es ∧ ModOk m ∧ EdOk n es ∧ n ≤ 30 ∧ ResAt m H ga gs ∧ gs.length = es.length ∧ gs.length ≤ 60 ∧
  ResAt m H pa ps ∧ ps.length = n ∧ ∀ H' a, Same H H' → H a = none → H' a = some (.lst ((ledOf m es gs ps).map V.int)) → Q (.ref a) H'
theorem ok_switched (T : Tx K mg) : FnOk P w K mg base CX0 7 T.switched.f T.switched.fd N_switched_ps (sp_switched T.Web) := by
  have G_Web_edges := ok_Web_edges (P := P) (w := w) (base := base) T
  have G_check_gains := ok_check_gains (P := P) (w := w) (base := base) T
  have G_check_potential := ok_check_potential (P := P) (w := w) (base := base) T
  have G_residue := ok_residue (P := P) (w := w) (base := base) T
  refine T.switched.F.ok sc_switched (fun vs H Q E h => ?_) (fun cdv A outer s H vs Q E hr h => ?_)
  · obtain ⟨x, ga, pa, gs, ps, n, m, es, rfl, hW, hm, hes, hn, hg, he, hl, hp, hpl, k⟩ := h
    rfl
  · obtain ⟨x, ga, pa, gs, ps, n, m, es, rfl, hW, hm, hes, hn, hg, he, hl, hp, hpl, k⟩ := h
    have hu := hu_of hr
    refine ⟨_, PSs.nox (pss_cons (ps_expr (pe_call G_check_gains (hr.mono (by decide)) rfl T.check_gains.m T.check_gains.F.kp T.check_gains.b .nil pass0 (pa_cons (pv 0) (pa_cons (pv 1) pa_nil))))
      (pss_cons (ps_expr (pe_call G_check_potential (hr.mono (by decide)) rfl T.check_potential.m T.check_potential.F.kp T.check_potential.b .nil pass0 (pa_cons (pv 0) (pa_cons (pv 2) pa_nil))))
      (pss_cons (ps_set (i := 3) sc_switched.nd rfl (by first | exact Or.inl rfl | exact Or.inr rfl) (pe_lst pa_nil))
      (pss_cons (ps_for PassesOwn.never rfl (pi_zip (by rfl) T.n_zip (pa_cons (pv 1) (pa_cons (pe_meth0 (pv 0) T.cl_Web T.Web_edges.m G_Web_edges (hr.mono (by decide)) T.Web_edges.b .nil pass0) pa_nil))) (pg_tup rfl (pgs_cons (pg_name (i := 4) sc_switched.nd rfl (by first | exact Or.inl rfl | exact Or.inr rfl)) (pgs_cons (pg_tup rfl (pgs_cons (pg_name (i := 5) sc_switched.nd rfl (by first | exact Or.inl rfl | exact Or.inr rfl)) (pgs_cons (pg_name (i := 6) sc_switched.nd rfl (by first | exact Or.inl rfl | exact Or.inr rfl)) pgs_nil))) pgs_nil)))
        (pss_one (ps_expr (pe_bm PySem.F.plainAttrs_list PySem.F.slot_list_append PySem.F.type_list_append mt_append (pv 3) (pa_cons (pe_call G_residue (hr.mono (by decide)) rfl T.residue.m T.residue.F.kp T.residue.b .nil pass0 (pa_cons (pv 0) (pa_cons (pe_op op_sub (pe_op op_add (pv 4) (pe_ix ix_list (pv 2) (pv 5) (fun _ _ => rfl))) (pe_ix ix_list (pv 2) (pv 6) (fun _ _ => rfl))) pa_nil))) pa_nil)))))
      (pss_one (ps_ret (pv 3))))))), ?_⟩
    refine ⟨_, rfl, _, rfl, x, ga, gs, n, m, es, rfl, hW, hm, hg, he, by omega, fun H1 e1 => ?_⟩
    refine ⟨_, rfl, _, rfl, x, pa, ps, n, m, es, rfl, m_Web _ _ _ _ e1 hW, hm, hp.same e1, hpl, by omega, fun H2 e2 => ?_⟩
    refine ⟨Nat.zero_le _, fun l hl0 => ?_⟩
    have e3 : Same H (upd H2 l (.lst [])) := (e1.trans e2).trans (Same.new hl0)
    have hln : H l = none := (e1.trans e2).free hl0
    have hW3 := m_Web _ _ _ _ e3 hW
    obtain ⟨x0, dx, ea, fa, la, rfl, g1, g2⟩ := id hW3
    refine ⟨_, rfl, _, rfl, x0, dx, _, rfl, g1, rfl, _, n, m, es, rfl, hW3, fun H4 eb e4 hen hE => ?_⟩
    obtain ⟨xs, hb, hx⟩ := hE
    have e5 : Same H H4 := e3.trans e4
    have hl4 : H4 l = some (.lst []) := e4 _ _ upd_same
    have hxl := Paired.length hx
    have hlb : l ≠ eb := ne_of_none upd_same hen
    refine ⟨ga, eb, _, _, rfl, SqL.of (e5 _ _ hg.at_), SqL.of hb, RZ.for_zipL (by rw [List.length_map, he, hxl]) (fun i σ H5 => ∃ a b c, σ = [some (.ref x0), some (.ref ga), some (.ref pa), some (.ref l), a, b, c] ∧ Same H H5 ∧ H5 eb = some (.lst xs) ∧ Paired (PairR H5) xs es ∧ H5 l = some (.lst (((ledOf m es gs ps).take i).map V.int)))
      ⟨none, none, none, rfl, e5, hb, hx, hl4⟩ (fun i σ H5 ⟨_, _, _, _, e, h1, _, _⟩ => ⟨SqL.of (e _ _ hg.at_), SqL.of h1⟩) ?_ ?_⟩
    · rintro i y z t σ H5 hy hz ⟨a, b, c, rfl, e, h1, h2, h3⟩ ht
      obtain ⟨ed, hed, t2, rfl, ht2⟩ := Paired.at2 h2 hz
      obtain ⟨g, hgi, rfl⟩ := map_at hy
      obtain ⟨b1, b2⟩ := hes ed (List.mem_of_getElem? hed)
      have hil := (List.getElem?_eq_some_iff.mp hgi).1
      have n1 : Same H5 (upd H5 t (.tup [.int g, .ref t2])) := Same.new ht
      have hp5 : (upd H5 t (.tup [.int g, .ref t2])) pa = some (.lst (ps.map V.int)) := n1 _ _ (e _ _ hp.at_)
      have h35 := n1 _ _ h3
      refine ⟨t, _, rfl, SqT.of upd_same, rfl, _, _, rfl, _, _, rfl, t2, _, rfl, SqT.of (n1 _ _ ht2), rfl, _, _, rfl, _, _, rfl, rfl, rfl, ?_⟩
      refine ⟨_, rfl, .inl ⟨rfl, _, SqL.of h35⟩, _, rfl, _, rfl, _, rfl, _, rfl, pa, _, _, _, rfl, rfl, SqL.of hp5, ints_at (by omega), _, _, rfl, rfl, _, rfl, _, rfl, pa, _, _, _, rfl, rfl, SqL.of hp5, ints_at (by omega), _, _, rfl, rfl, ?_⟩
      refine ⟨_, _, n, m, es, rfl, m_Web _ _ _ _ (e.trans n1) hW, l, _, _, rfl, rfl, h35, ?_, _, _, _, rfl, ?_, ?_, ?_, ?_⟩
      · rw [List.length_map, List.length_take]
        exact szl _ (by omega)
      · exact Same.mut (e.trans n1) hln
      · rw [upd_ne hlb.symm]; exact n1 _ _ h1
      · refine Paired.mapP (Paired.mono m_Pair n1 h2) fun v d q => ?_
        obtain ⟨t3, rfl, h⟩ := q
        exact ⟨t3, rfl, by rw [upd_ne (ne_of h h35 (by intro z; cases z))]; exact h⟩
      · rw [upd_same]
        have z := zipWith_take (fun g (e : Nat × Nat) => red m (g + fn ps e.1 - fn ps e.2)) hgi hed
        unfold ledOf
        rw [z, List.map_append]
        rfl
    · rintro σ H5 ⟨a, b, c, rfl, e, h1, h2, h3⟩
      refine ⟨_, rfl, k H5 l e hln ?_⟩
      rw [h3, List.take_of_length_le]
      unfold ledOf
      rw [List.length_zipWith, List.length_map]
      omega
def sp_switch (C : Addr) : Sp := fun vs H Q _ => ∃ (x : V) (ga : Addr) (i : Nat) (am : Int) (gs : List Int) (n : Nat) (m : Int) (es : Es), vs = [x, .ref ga, .int i, .int am] ∧ WebR C n m H x es ∧ ModOk m ∧ EdOk n es ∧ n ≤ 30 ∧ ResAt m H ga gs ∧ gs.length = es.length ∧ gs.length ≤ 60 ∧
  i < n ∧ ∀ H' a, Same H H' → H a = none → H' a = some (.lst ((ledOf m es gs ((List.replicate n 0).set i (red m am))).map V.int)) → Q (.ref a) H'
theorem ok_switch (T : Tx K mg) : FnOk P w K mg base CX0 8 T.switch.f T.switch.fd N_switch_ps (sp_switch T.Web) := by
  have G_Web_size := ok_Web_size (P := P) (w := w) (base := base) T
  have G_check_gains := ok_check_gains (P := P) (w := w) (base := base) T
  have G_check_node := ok_check_node (P := P) (w := w) (base := base) T
  have G_residue := ok_residue (P := P) (w := w) (base := base) T
  have G_switched := ok_switched (P := P) (w := w) (base := base) T
  refine T.switch.F.ok sc_switch (fun vs H Q E h => ?_) (fun cdv A outer s H vs Q E hr h => ?_)
  · obtain ⟨x, ga, i, am, gs, n, m, es, rfl, hW, hm, hes, hn, hg, he, hl, hi, k⟩ := h
    rfl
  · obtain ⟨x, ga, i, am, gs, n, m, es, rfl, hW, hm, hes, hn, hg, he, hl, hi, k⟩ := h
    have hu := hu_of hr
    refine ⟨_, PSs.nox (pss_cons (ps_expr (pe_call G_check_gains (hr.mono (by decide)) rfl T.check_gains.m T.check_gains.F.kp T.check_gains.b .nil pass0 (pa_cons (pv 0) (pa_cons (pv 1) pa_nil))))
      (pss_cons (ps_expr (pe_call G_check_node (hr.mono (by decide)) rfl T.check_node.m T.check_node.F.kp T.check_node.b .nil pass0 (pa_cons (pv 0) (pa_cons (pv 2) pa_nil))))
      (pss_cons (ps_set (i := 4) sc_switch.nd rfl (by first | exact Or.inl rfl | exact Or.inr rfl) (pe_op op_rep (pe_lst (pa_cons pe_int pa_nil)) (pe_meth0 (pv 0) T.cl_Web T.Web_size.m G_Web_size (hr.mono (by decide)) T.Web_size.b .nil pass0)))
      (pss_cons (ps_asg (pe_call G_residue (hr.mono (by decide)) rfl T.residue.m T.residue.F.kp T.residue.b .nil pass0 (pa_cons (pv 0) (pa_cons (pv 3) pa_nil))) (pg_sub (pv 4) (pv 2) set_list))
      (pss_one (ps_ret (pe_call G_switched (hr.mono (by decide)) rfl T.switched.m T.switched.F.kp T.switched.b .nil pass0 (pa_cons (pv 0) (pa_cons (pv 1) (pa_cons (pv 4) pa_nil)))))))))), ?_⟩
    refine ⟨_, rfl, _, rfl, x, ga, gs, n, m, es, rfl, hW, hm, hg, he, by omega, fun H1 e1 => ?_⟩
    have hW1 := m_Web _ _ _ _ e1 hW
    obtain ⟨x0, dx, ea, fa, la, rfl, g1, g2⟩ := id hW1
    refine ⟨_, rfl, _, rfl, _, i, n, m, es, rfl, hW1, by omega, by omega, ?_⟩
    refine ⟨by decide, fun l0 hl0 => ?_⟩
    have n1 : Same H1 (upd H1 l0 (.lst [.int 0])) := Same.new hl0
    refine ⟨_, rfl, x0, dx, _, rfl, n1 _ _ g1, rfl, _, n, m, es, rfl, m_Web _ _ _ _ n1 hW1, l0, _, _, rfl, rfl, upd_same, by omega, by omega, ?_, fun pa hpa => ?_⟩
    · show 1 * ((n : Nat) : Int).toNat ≤ sizeLine
      exact sz _
    have n2 := n1.trans (Same.new (o := .lst (List.replicate ((n : Int)).toNat [V.int 0]).flatten) hpa)
    have hpan : H pa = none := (e1.trans n1).free hpa
    have hW2 := m_Web _ _ _ _ n2 hW1
    refine ⟨_, rfl, _, rfl, _, am, n, m, es, rfl, hW2, _, rfl, _, rfl, pa, _, _, i, rfl, rfl, upd_same, ?_, ?_⟩
    · rw [Int.toNat_natCast, rep_ints, List.length_map, List.length_replicate]
      exact ixN_nat hi
    rw [Int.toNat_natCast, rep_ints, ints_set, upd_upd]
    have n3 : Same H (upd (upd H1 l0 (.lst [.int 0])) pa (.lst (((List.replicate n (0 : Int)).set i (red m am)).map V.int))) := Same.mut (e1.trans n1) hpan
    refine ⟨_, rfl, _, rfl, _, rfl, _, ga, pa, gs, _, n, m, es, rfl, m_Web _ _ _ _ n3 hW, hm, hes, hn, hg.same n3, he, hl, ⟨upd_same, fun g hg => ?_⟩, ?_, fun H' a e ha h => k H' a (n3.trans e) (n3.free ha) h⟩
    · rcases List.mem_or_eq_of_mem_set hg with h | h
      · rw [List.eq_of_mem_replicate h]; intro z; omega
      · rw [h]; exact red_res _ _
    · rw [List.length_set, List.length_replicate]
def sp_is_switch (C : Addr) : Sp := fun vs H Q _ => ∃ (x : V) (t : Addr) (i am : Int) (n : Nat) (m : Int) (es : Es), vs = [x, .ref t] ∧ WebR C n m H x es ∧ H t = some (.tup [.int i, .int am]) ∧ 0 ≤ i ∧ i < n ∧ Q (.bl true) H
theorem ok_is_switch (T : Tx K mg) : FnOk P w K mg base CX0 3 T.is_switch.f T.is_switch.fd N_is_switch_ps (sp_is_switch T.Web) := by
  have G_Web_size := ok_Web_size (P := P) (w := w) (base := base) T
  have G_is_integer := ok_is_integer (P := P) (w := w) (base := base) T
  have G_is_within := ok_is_within (P := P) (w := w) (base := base) T
  refine T.is_switch.F.ok sc_is_switch (fun vs H Q E h => ?_) (fun cdv A outer s H vs Q E hr h => ?_)
  · obtain ⟨x, t, i, am, n, m, es, rfl, hW, ht, h0, h1, k⟩ := h
    rfl
  · obtain ⟨x, t, i, am, n, m, es, rfl, hW, ht, h0, h1, k⟩ := h
    have hu := hu_of hr
    refine ⟨_, PSs.nox (pss_cons (ps_if (PW.pt (pw_or (pt_not (pt_val (pe_callB call_isi (by rfl) T.n_isinstance (by decide +kernel) (pa_cons (pv 1) (pa_cons (pe_bltn (v := .ty "tuple") (by rfl) T.n_tuple (by decide +kernel) rfl) pa_nil))))) (pw_or1 (pt_cmpR op_ne (pe_callB call_len_seq (by rfl) T.n_len (by decide +kernel) (pa_cons (pv 1) pa_nil)) pe_int (nomark _))))) (pss_one (ps_ret pe_bl)) pss_nil)
      (pss_one (ps_ret (pe_and (pe_call G_is_within (hr.mono (by decide)) rfl T.is_within.m T.is_within.F.kp T.is_within.b .nil pass0 (pa_cons (pe_ix ix_tup (pv 1) pe_int (fun _ _ => rfl)) (pa_cons pe_int (pa_cons (pe_op op_sub (pe_meth0 (pv 0) T.cl_Web T.Web_size.m G_Web_size (hr.mono (by decide)) T.Web_size.b .nil pass0) pe_int) pa_nil)))) (pe_one (pe_call G_is_integer (hr.mono (by decide)) rfl T.is_integer.m T.is_integer.F.kp T.is_integer.b .nil pass0 (pa_cons (pe_ix ix_tup (pv 1) pe_int (fun _ _ => rfl)) pa_nil))))))), ?_⟩
    obtain ⟨x0, dx, ea, fa, la, rfl, g1, g2⟩ := id hW
    refine ⟨_, rfl, _, _, _, _, true, rfl, .ty _, .base (.tup ht), kit_ty (by decide +kernel), _, rfl, iteF ?_⟩
    refine ⟨_, rfl, _, _, rfl, .inr (SqT.of ht), rfl, _, rfl, iteF ?_⟩
    refine ⟨_, rfl, _, _, _, _, rfl, rfl, SqT.of ht, atI_nat (j := 0) rfl, _, rfl, x0, dx, _, rfl, g1, rfl, _, n, m, es, rfl, hW, _, _, rfl, rfl, ?_⟩
    refine ⟨i, 0, _, rfl, h0, by omega, _, rfl, iteT ?_⟩
    exact ⟨_, rfl, _, _, _, _, rfl, rfl, SqT.of ht, atI_nat (j := 1) rfl, am, rfl, k⟩
def sp_potential_of (C : Addr) : Sp := fun vs H Q _ => ∃ (x : V) (a : Addr) (ds : List (Nat × Int)) (n : Nat) (m : Int) (es : Es), vs = [x, .ref a] ∧ WebR C n m H x es ∧ ListAt StepR H a ds ∧ (∀ d ∈ ds, d.1 < n) ∧ n ≤ 30 ∧
  ∀ H' p, Same H H' → H p = none → H' p = some (.lst ((potOf m n ds).map V.int)) → Q (.ref p) H'
theorem ok_potential_of (T : Tx K mg) : FnOk P w K mg base CX0 4 T.potential_of.f T.potential_of.fd N_potential_of_ps (sp_potential_of T.Web) := by
  have G_Web_size := ok_Web_size (P := P) (w := w) (base := base) T
  have G_is_switch := ok_is_switch (P := P) (w := w) (base := base) T
  have G_residue := ok_residue (P := P) (w := w) (base := base) T
  refine T.potential_of.F.ok sc_potential_of (fun vs H Q E h => ?_) (fun cdv A outer s H vs Q E hr h => ?_)
  · obtain ⟨x, a, ds, n, m, es, rfl, hW, hds, hd, hn, k⟩ := h
    rfl
  · obtain ⟨x, a, ds, n, m, es, rfl, hW, hds, hd, hn, k⟩ := h
    have hu := hu_of hr
    refine ⟨_, PSs.nox (pss_cons (ps_if (pt_not (pt_val (pe_callB call_isi (by rfl) T.n_isinstance (by decide +kernel) (pa_cons (pv 1) (pa_cons (pe_bltn (v := .ty "list") (by rfl) T.n_list (by decide +kernel) rfl) pa_nil))))) (pss_one ps_never) pss_nil)
      (pss_cons (ps_set (i := 2) sc_potential_of.nd rfl (by first | exact Or.inl rfl | exact Or.inr rfl) (pe_op op_rep (pe_lst (pa_cons pe_int pa_nil)) (pe_meth0 (pv 0) T.cl_Web T.Web_size.m G_Web_size (hr.mono (by decide)) T.Web_size.b .nil pass0)))
      (pss_cons (ps_for PassesOwn.never rfl (pi_list (pv 1)) (pg_name (i := 3) sc_potential_of.nd rfl (by first | exact Or.inl rfl | exact Or.inr rfl))
        (pss_cons (ps_if (pt_not (pt_val (pe_call G_is_switch (hr.mono (by decide)) rfl T.is_switch.m T.is_switch.F.kp T.is_switch.b .nil pass0 (pa_cons (pv 0) (pa_cons (pv 3) pa_nil))))) (pss_one ps_never) pss_nil)
        (pss_cons (ps_asg (pv 3) (pg_tup rfl (pgs_cons (pg_name (i := 4) sc_potential_of.nd rfl (by first | exact Or.inl rfl | exact Or.inr rfl)) (pgs_cons (pg_name (i := 5) sc_potential_of.nd rfl (by first | exact Or.inl rfl | exact Or.inr rfl)) pgs_nil))))
        (pss_one (ps_asg (pe_call G_residue (hr.mono (by decide)) rfl T.residue.m T.residue.F.kp T.residue.b .nil pass0 (pa_cons (pv 0) (pa_cons (pe_op op_add (pe_ix ix_list (pv 2) (pv 4) (fun _ _ => rfl)) (pv 5)) pa_nil))) (pg_sub (pv 2) (pv 4) set_list))))))
      (pss_one (ps_ret (pv 2)))))), ?_⟩
    obtain ⟨x0, dx, ea, fa, la, rfl, g1, g2⟩ := id hW
    obtain ⟨xs, h1, h2⟩ := id hds
    refine ⟨_, rfl, _, _, _, _, true, rfl, .ty _, .base (.lst h1), kit_ty (by decide +kernel), _, rfl, iteF ?_⟩
    refine ⟨by decide, fun l0 hl0 => ?_⟩
    have n1 : Same H (upd H l0 (.lst [.int 0])) := Same.new hl0
    refine ⟨_, rfl, x0, dx, _, rfl, n1 _ _ g1, rfl, _, n, m, es, rfl, m_Web _ _ _ _ n1 hW, l0, _, _, rfl, rfl, upd_same, by omega, by omega, ?_, fun pa hpa => ?_⟩
    · show 1 * ((n : Nat) : Int).toNat ≤ sizeLine
      exact sz _
    have hpan : H pa = none := n1.free hpa
    have n2 := n1.trans (Same.new (o := .lst (List.replicate ((n : Int)).toNat [V.int 0]).flatten) hpa)
    refine ⟨_, rfl, a, rfl, ⟨_, SqL.of (n2 _ _ h1)⟩, for_list (K := K) (a := a) (xs := xs) (fun i σ H2 => ∃ u v z, σ = [some (.ref x0), some (.ref a), some (.ref pa), u, v, z] ∧ Same H H2 ∧ H2 pa = some (.lst ((potOf m n (ds.take i)).map V.int))) ⟨none, none, none, rfl, n2, ?_⟩
      (fun i σ H2 _ ⟨_, _, _, _, e, _⟩ => SqL.of (e _ _ h1)) ?_ ?_⟩
    · rw [upd_same, Int.toNat_natCast, rep_ints]; rfl
    · rintro i y σ H2 hi ⟨u, v, z, rfl, e, h3⟩
      obtain ⟨d, hdi, t, rfl, ht⟩ := Paired.at2 h2 hi
      have hd1 := hd d (List.mem_of_getElem? hdi)
      have hW2 := m_Web _ _ _ _ e hW
      have hf := potOf_len m n (ds.take i)
      refine ⟨_, rfl, _, rfl, _, t, _, _, n, m, es, rfl, hW2, e _ _ ht, by omega, by omega, _, rfl, iteF ?_⟩
      refine ⟨_, rfl, t, _, rfl, SqT.of (e _ _ ht), rfl, _, _, rfl, _, _, rfl, rfl, ?_⟩
      refine ⟨_, rfl, _, rfl, _, rfl, pa, _, _, _, rfl, rfl, SqL.of h3, ints_at (by omega), _, rfl, _, _, rfl, rfl, _, _, n, m, es, rfl, hW2, ?_⟩
      refine ⟨_, rfl, _, rfl, pa, _, _, d.1, rfl, rfl, h3, ?_, ?_⟩
      · rw [List.length_map, hf]; exact ixN_nat hd1
      · refine ⟨_, _, _, rfl, Same.mut e hpan, ?_⟩
        rw [upd_same, ints_set, take_snoc hdi, potOf_snoc]
    · rintro σ H2 ⟨u, v, z, rfl, e, h3⟩
      refine ⟨_, rfl, k H2 pa e hpan ?_⟩
      rw [h3, Paired.length h2, List.take_length]
end
end Tt
end
section
set_option maxHeartbeats 4000000
namespace Tt
open PySem PySem.Spec PyProof.Rows L2
abbrev nv (l : List Nat) : List V := l.map fun n : Nat => V.int (n : Int)
theorem nv_at {l : List Nat} {v x : Nat} (h : l[v]? = some x) : atI (nv l) ((v : Nat) : Int) = some (V.int (x : Int)) := atI_nat (by rw [List.getElem?_map, h]; rfl)
theorem nv_get {l : List Nat} {i : Nat} {y : V} (h : (nv l)[i]? = some y) : ∃ g : Nat, l[i]? = some g ∧ y = V.int (g : Int) := by
  rw [List.getElem?_map] at h
  cases q : l[i]? with
  | none => rw [q] at h; cases h
  | some g => rw [q] at h; exact ⟨g, rfl, (Option.some.inj h).symm⟩
theorem nv_snoc (l : List Nat) (i : Nat) : nv (l ++ [i]) = nv l ++ [.int (i : Int)] := List.map_append
theorem nv_inj {x y : Nat} (h : V.int (x : Int) = V.int (y : Int)) : x = y := by
  have := V.int.inj h
  omega
theorem rg_nv (n : Nat) : rgV 0 (n : Int) = nv (List.range n) := by
  unfold rgV
  rw [Int.sub_zero, Int.toNat_natCast]
  exact List.map_congr_left fun i _ => by rw [Int.zero_add]
theorem tk_snoc {α : Type} {l : List α} {i : Nat} {x : α} (h : l[i]? = some x) : l.take (i + 1) = l.take i ++ [x] := by
  rw [List.take_add_one, h]; rfl
/-! ### the links in the heap -/
structure LkAt (H : Hp) (as : List Addr) (Ls : List (List Lk)) : Prop where
  len : as.length = Ls.length
  nd : as.Nodup
  at_ : ∀ (u : Nat) (a : Addr) (l : List Lk), as[u]? = some a → Ls[u]? = some l → ∃ xs, H a = some (.lst xs) ∧ Paired (LinkR H) xs l
theorem LkAt.same {H H' : Hp} {as : List Addr} {Ls : List (List Lk)} (h : LkAt H as Ls) (e : Same H H') : LkAt H' as Ls :=
  ⟨h.len, h.nd, fun u a l h1 h2 => let ⟨xs, h3, h4⟩ := h.at_ u a l h1 h2; ⟨xs, e _ _ h3, Paired.mono m_Link e h4⟩⟩
theorem LkAt.add {H : Hp} {as : List Addr} {Ls : List (List Lk)} (h : LkAt H as Ls) {u : Nat} {a t : Addr} {xs : List V} {x : Lk} (hu : as[u]? = some a) (ha : H a = some (.lst xs)) (ht : H t = none) :
    LkAt (upd (upd H t (.tup [.int x.1, .int x.2.1, .int x.2.2])) a (.lst (xs ++ [.ref t]))) as (addAt Ls u x) where
  len := by rw [addAt_len]; exact h.len
  nd := h.nd
  at_ := fun v b l hv hl => by
    have ta : t ≠ a := fun z => by rw [z] at ht; rw [ht] at ha; cases ha
    have keep : ∀ (w : V) (y : Lk), LinkR H w y → LinkR (upd (upd H t (.tup [.int x.1, .int x.2.1, .int x.2.2])) a (.lst (xs ++ [.ref t]))) w y := fun w y ⟨s, e, hs⟩ => by
      refine ⟨s, e, ?_⟩
      rw [upd_ne (ne_of hs ha (by intro z; cases z)), upd_ne (ne_of_none hs ht)]
      exact hs
    rw [addAt_get] at hl
    by_cases c : u = v
    · subst c
      rw [hu] at hv
      cases hv
      rw [if_pos rfl] at hl
      cases q : Ls[u]? with
      | none => rw [q] at hl; cases hl
      | some l0 =>
        rw [q] at hl
        cases hl
        obtain ⟨xs', h1, h2⟩ := h.at_ u a l0 hu q
        rw [ha] at h1
        cases h1
        exact ⟨_, upd_same, Paired.snoc (Paired.mapP h2 keep) ⟨t, rfl, by rw [upd_ne ta, upd_same]⟩⟩
    · rw [if_neg c] at hl
      obtain ⟨xs', h1, h2⟩ := h.at_ v b l hv hl
      have hba : b ≠ a := fun z => by
        subst z
        exact c (nd_ix h.nd hu hv)
      exact ⟨xs', by rw [upd_ne hba, upd_ne (ne_of_none h1 ht)]; exact h1, Paired.mapP h2 keep⟩
def LinksAt (H : Hp) (p : Addr) (Ls : List (List Lk)) : Prop := ∃ as, H p = some (.lst (as.map V.ref)) ∧ LkAt H as Ls
theorem LinksAt.same {H H' : Hp} {p : Addr} {Ls : List (List Lk)} (h : LinksAt H p Ls) (e : Same H H') : LinksAt H' p Ls := by
  obtain ⟨as, h1, h2⟩ := h
  exact ⟨as, e _ _ h1, h2.same e⟩
theorem refs_at {as : List Addr} {u : Nat} {a : Addr} (h : as[u]? = some a) : atI (as.map V.ref) ((u : Nat) : Int) = some (V.ref a) := atI_nat (by rw [List.getElem?_map, h]; rfl)
section
variable {P : Program} {w : World} {K : PySem.W.Frag} {mg : Str → Option Value} {base : Heap}
def sp_forest_of : Sp := fun vs H Q _ => ∃ (n : Nat) (a : Addr) (ps : Es), vs = [.int n, .ref a] ∧ ListAt PairR H a ps ∧ EdOk n ps ∧ n ≤ 30 ∧ ps.length ≤ 1000 ∧
  ∀ H' p F, Same H H' → H p = none → H' p = some (.lst (nv F)) → ForestOk ps F → F.length ≤ ps.length → Q (.ref p) H'
theorem ok_forest_of (T : Tx K mg) : FnOk P w K mg base CX0 1 T.forest_of.f T.forest_of.fd N_forest_of_ps sp_forest_of := by
  refine T.forest_of.F.ok sc_forest_of (fun vs H Q E h => ?_) (fun cdv A outer s H vs Q E hr h => ?_)
  · obtain ⟨n, a, ps, rfl, ha, hp, hn, hl, k⟩ := h
    rfl
  · obtain ⟨n, a, ps, rfl, ha, hp, hn, hl, k⟩ := h
    have hu := hu_of hr
    refine ⟨_, PSs.nox (pss_cons (ps_set (i := 2) sc_forest_of.nd rfl (by first | exact Or.inl rfl | exact Or.inr rfl) (pe_listRg rfl rfl T.n_list (prg_1 rfl T.n_range (pv 0))))
      (pss_cons (ps_set (i := 3) sc_forest_of.nd rfl (by first | exact Or.inl rfl | exact Or.inr rfl) (pe_lst pa_nil))
      (pss_cons (ps_for PassesOwn.never rfl (pi_enum (by rfl) T.n_enumerate (pa_cons (pv 1) pa_nil)) (pg_tup rfl (pgs_cons (pg_name (i := 4) sc_forest_of.nd rfl (by first | exact Or.inl rfl | exact Or.inr rfl)) (pgs_cons (pg_tup rfl (pgs_cons (pg_name (i := 5) sc_forest_of.nd rfl (by first | exact Or.inl rfl | exact Or.inr rfl)) (pgs_cons (pg_name (i := 6) sc_forest_of.nd rfl (by first | exact Or.inl rfl | exact Or.inr rfl)) pgs_nil))) pgs_nil)))
        (pss_one (ps_if (pt_cmpR op_ne (pe_ix ix_list (pv 2) (pv 5) (fun _ _ => rfl)) (pe_ix ix_list (pv 2) (pv 6) (fun _ _ => rfl)) (nomark _)) (pss_cons (ps_expr (pe_bm PySem.F.plainAttrs_list PySem.F.slot_list_append PySem.F.type_list_append mt_append (pv 3) (pa_cons (pv 4) pa_nil)))
          (pss_one (ps_set (i := 2) sc_forest_of.nd rfl (by first | exact Or.inl rfl | exact Or.inr rfl) (pe_lc (own := [("group", 7)]) (g := gName 7) (tt := tYes) rfl sc_forest_of.nd (pi_list (pv 2)) (blkOk_by (N := N_forest_of) (sc := defScope (top 17)) (by decide +kernel)) (fun _ _ _ _ _ => (pg_name (i := 7) sc_forest_of.nd rfl (by first | exact Or.inl rfl | exact Or.inr rfl))) (fun _ _ _ _ _ => pts_nil) (fun _ _ _ _ _ => (pe_ifExp (pt_cmpR op_eq (pv 7) (pe_ix (ix_listB (K := K) rfl) (pv 2) (pv 6) (fun _ _ => rfl)) (nomark _)) (pe_ix (ix_listB (K := K) rfl) (pv 2) (pv 5) (fun _ _ => rfl)) (pv 7))))))) pss_nil)))
      (pss_one (ps_ret (pv 3)))))), ?_⟩
    obtain ⟨xs, h1, h2⟩ := id ha
    have hxl := Paired.length h2
    refine ⟨_, rfl, _, rfl, ⟨by omega, by omega, by omega, by omega, by omega⟩, fun gl0 hgl0 => ?_⟩
    refine ⟨Nat.zero_le _, fun fl hfl0 => ?_⟩
    rw [rg_nv] at hfl0 ⊢
    have s1 : Same H (upd H gl0 (.lst (nv (List.range n)))) := Same.new hgl0
    have s2 : Same (upd H gl0 (.lst (nv (List.range n)))) (upd (upd H gl0 (.lst (nv (List.range n)))) fl (.lst [])) := Same.new hfl0
    have hfn : H fl = none := s1.free hfl0
    have e0 := s1.trans s2
    refine ⟨_, rfl, a, _, rfl, SqL.of (e0 _ _ h1), for_it (walk_enum (K := K) (a := a) (xs := xs)) (fun i σ H2 => ∃ (g F : List Nat) (gl : Addr) (u v z y : Option V), σ = [some (.int n), some (.ref a), some (.ref gl), some (.ref fl), u, v, z, y] ∧ Same H H2 ∧
        H2 gl = some (.lst (nv g)) ∧ H2 fl = some (.lst (nv F)) ∧ gl ≠ fl ∧ H gl = none ∧ GI n ps i g F)
      ⟨List.range n, [], gl0, none, none, none, none, rfl, e0, s2 _ _ upd_same, upd_same, ne_of_none upd_same hfl0, hgl0, GI.start n ps⟩ (fun i σ H2 _ ⟨_, _, _, _, _, _, _, _, e, _⟩ => SqL.of (e _ _ h1)) ?_ ?_⟩
    · rintro i x σ H2 H3 hi ⟨g, F, gl, u, v, z, y, rfl, e, hg, hf, hgf, hgn, G⟩ ⟨T0, p1, p2, rfl, hT0, rfl, hp1, hp2⟩
      cases hp1
      obtain ⟨⟨t, hd⟩, hed, t2, rfl, ht2⟩ := Paired.at2 h2 hp2
      obtain ⟨b1, b2⟩ := hp.at_ hed
      have n1 : Same H2 (upd H2 T0 (.tup [.int (i : Nat), .ref t2])) := Same.new hT0
      have hg1 := n1 _ _ hg
      have hf1 := n1 _ _ hf
      have et := e.trans n1
      obtain ⟨gx, hgx⟩ : ∃ gx, g[t]? = some gx := ⟨_, List.getElem?_eq_getElem (by rw [G.len]; exact b1)⟩
      obtain ⟨gy, hgy⟩ : ∃ gy, g[hd]? = some gy := ⟨_, List.getElem?_eq_getElem (by rw [G.len]; exact b2)⟩
      refine ⟨T0, _, rfl, SqT.of upd_same, rfl, _, _, rfl, _, _, rfl, t2, _, rfl, SqT.of (et _ _ ht2), rfl, _, _, rfl, _, _, rfl, rfl, rfl, ?_⟩
      refine ⟨_, rfl, _, rfl, gl, _, _, _, rfl, rfl, SqL.of hg1, nv_at hgx, _, rfl, _, rfl, gl, _, _, _, rfl, rfl, SqL.of hg1, nv_at hgy, rfl, _, rfl, ?_⟩
      by_cases c : gx = gy
      · subst c
        refine iteNS rfl ?_
        exact ⟨g, F, gl, _, _, _, _, rfl, et, hg1, hf1, hgf, hgn, G.skip hed (hgx.trans hgy.symm)⟩
      · have c2 : (!decide (V.int (gx : Int) = V.int (gy : Int))) = true := by rw [decide_eq_false fun z => c (nv_inj z)]; rfl
        rw [c2]
        refine iteT ?_
        have hFl : F.length ≤ i := G.fl
        refine ⟨_, rfl, .inl ⟨rfl, _, SqL.of hf1⟩, _, rfl, fl, _, _, rfl, rfl, hf1, ?_, ?_⟩
        · rw [List.length_map]; exact szl _ (by omega)
        have hgb : upd (upd H2 T0 (.tup [.int (i : Nat), .ref t2])) fl (.lst (nv F ++ [.int (i : Nat)])) gl = some (.lst (nv g)) := by rw [upd_ne hgf]; exact hg1
        have eb : Same H (upd (upd H2 T0 (.tup [.int (i : Nat), .ref t2])) fl (.lst (nv F ++ [.int (i : Nat)]))) := Same.mut et hfn
        refine ⟨_, rfl, gl, rfl, ⟨_, SqL.of hgb⟩, fun D hD => ?_⟩
        refine lc_list (K := K) (a := gl) (xs := nv g) (fun j H7 => Same (upd (upd H2 T0 (.tup [.int (i : Nat), .ref t2])) fl (.lst (nv F ++ [.int (i : Nat)]))) H7 ∧ H7 D = some (.lst (nv ((g.map fun z => if z = gy then gx else z).take j))))
          ⟨Same.new hD, upd_same⟩ (fun j H7 _ ⟨e7, _⟩ => SqL.of (e7 _ _ hgb)) ?_ ?_
        · rintro j q H7 hj ⟨e7, h7⟩
          obtain ⟨gj, hgj, rfl⟩ := nv_get hj
          have hg7 := e7 _ _ hgb
          have hjl := (List.getElem?_eq_some_iff.mp hgj).1
          have gl30 : g.length ≤ 30 := by rw [G.len]; exact hn
          have hlen : (nv ((g.map fun z => if z = gy then gx else z).take j)).length < sizeLine := by
            rw [List.length_map, List.length_take]
            exact szl _ (by omega)
          have hm : (g.map fun z => if z = gy then gx else z)[j]? = some (if gj = gy then gx else gj) := by rw [List.getElem?_map, hgj]; rfl
          have fin : ∀ r : Nat, r = (if gj = gy then gx else gj) → Same (upd (upd H2 T0 (.tup [.int (i : Nat), .ref t2])) fl (.lst (nv F ++ [.int (i : Nat)]))) (upd H7 D (.lst (nv ((g.map fun z => if z = gy then gx else z).take j) ++ [.int (r : Int)]))) ∧
              upd H7 D (.lst (nv ((g.map fun z => if z = gy then gx else z).take j) ++ [.int (r : Int)])) D = some (.lst (nv ((g.map fun z => if z = gy then gx else z).take (j + 1)))) := fun r hr => by
            refine ⟨Same.mut e7 hD, ?_⟩
            rw [upd_same, tk_snoc hm, hr, nv_snoc]
          refine ⟨rfl, ?_⟩
          refine ⟨_, rfl, _, rfl, _, rfl, gl, _, _, _, rfl, rfl, SqL.of hg7, nv_at hgy, rfl, _, rfl, ?_⟩
          by_cases c3 : gj = gy
          · subst c3
            rw [decide_eq_true rfl]
            refine iteT ?_
            exact ⟨_, rfl, _, rfl, gl, _, _, _, rfl, rfl, SqL.of hg7, nv_at hgx, _, h7, hlen, fin gx (by rw [if_pos rfl])⟩
          · rw [decide_eq_false fun z => c3 (nv_inj z)]
            refine iteF ?_
            exact ⟨_, rfl, _, h7, hlen, fin gj (by rw [if_neg c3])⟩
        · rintro H7 ⟨e7, h7⟩
          have hDf : D ≠ fl := fun z => by
            have := ne_of_none (H := upd (upd H2 T0 (.tup [.int (i : Nat), .ref t2])) fl (.lst (nv F ++ [.int (i : Nat)]))) (a := fl) upd_same hD
            exact this z.symm
          refine ⟨_, F ++ [i], D, _, _, _, _, rfl, eb.trans e7, ?_, ?_, hDf, eb.free hD, G.take hed hgx hgy c⟩
          · rw [h7, List.take_of_length_le (by rw [List.length_map, List.length_map]; exact Nat.le_refl _)]
          · rw [e7 _ _ upd_same, nv_snoc]
    · rintro σ H2 ⟨g, F, gl, u, v, z, y, rfl, e, hg, hf, hgf, hgn, G⟩
      rw [hxl] at G
      exact ⟨_, rfl, k H2 fl F e hfn hf (G.done hp) G.fl⟩
def sp_links_of : Sp := fun vs H Q _ => ∃ (n : Nat) (a fa : Addr) (ps : Es) (F : List Nat), vs = [.int n, .ref a, .ref fa] ∧ ListAt PairR H a ps ∧ EdOk n ps ∧ n ≤ 30 ∧ H fa = some (.lst (nv F)) ∧ (∀ i ∈ F, i < ps.length) ∧ F.length ≤ 1000 ∧
  ∀ H' p Ls, Same H H' → H p = none → LinksAt H' p Ls → LinksOk n ps F Ls → Q (.ref p) H'
theorem ok_links_of (T : Tx K mg) : FnOk P w K mg base CX0 1 T.links_of.f T.links_of.fd N_links_of_ps sp_links_of := by
  refine T.links_of.F.ok sc_links_of (fun vs H Q E h => ?_) (fun cdv A outer s H vs Q E hr h => ?_)
  · obtain ⟨n, a, fa, ps, F, rfl, ha, hp, hn, hfa, hF, hl, k⟩ := h
    rfl
  · obtain ⟨n, a, fa, ps, F, rfl, ha, hp, hn, hfa, hF, hl, k⟩ := h
    have hu := hu_of hr
    refine ⟨_, PSs.nox (pss_cons (ps_setLc (i := 3) (own := [("node", 4)]) (g := gName 4) (tt := tYes) rfl sc_links_of.nd rfl rfl (sw_true rfl rfl rfl (by decide +kernel)) (pi_range1 rfl T.n_range (pa_cons (pv 0) pa_nil)) (blkOk_by (N := N_links_of) (sc := defScope (top 18)) (by decide +kernel)) (fun _ _ _ _ _ => (pg_name (i := 4) sc_links_of.nd rfl (by first | exact Or.inl rfl | exact Or.inr rfl))) (fun _ _ _ _ _ => pts_nil) (fun _ _ _ _ _ => (pe_lst pa_nil)))
      (pss_cons (ps_for PassesOwn.never rfl (pi_list (pv 2)) (pg_name (i := 5) sc_links_of.nd rfl (by first | exact Or.inl rfl | exact Or.inr rfl))
        (pss_cons (ps_asg (pe_ix ix_list (pv 1) (pv 5) (fun _ _ => rfl)) (pg_tup rfl (pgs_cons (pg_name (i := 6) sc_links_of.nd rfl (by first | exact Or.inl rfl | exact Or.inr rfl)) (pgs_cons (pg_name (i := 7) sc_links_of.nd rfl (by first | exact Or.inl rfl | exact Or.inr rfl)) pgs_nil))))
        (pss_cons (ps_expr (pe_bm PySem.F.plainAttrs_list PySem.F.slot_list_append PySem.F.type_list_append mt_append (pe_ix ix_list (pv 3) (pv 6) (fun _ _ => rfl)) (pa_cons (pe_tup (pa_cons (pv 5) (pa_cons pe_int (pa_cons (pv 7) pa_nil)))) pa_nil)))
        (pss_one (ps_expr (pe_bm PySem.F.plainAttrs_list PySem.F.slot_list_append PySem.F.type_list_append mt_append (pe_ix ix_list (pv 3) (pv 7) (fun _ _ => rfl)) (pa_cons (pe_tup (pa_cons (pv 5) (pa_cons (pe_un un_neg pe_int) (pa_cons (pv 6) pa_nil)))) pa_nil)))))))
      (pss_one (ps_ret (pv 3))))), ?_⟩
    obtain ⟨xs, h1, h2⟩ := id ha
    refine ⟨_, rfl, _, rfl, by omega, by omega, fun fl hfl => ?_⟩
    rw [Int.toNat_natCast]
    refine lc_range (lo := 0) (n := n) (fun j H1 => Same H H1 ∧ ∃ as : List Addr, as.length = j ∧ H1 fl = some (.lst (as.map V.ref)) ∧ as.Nodup ∧ ∀ b ∈ as, H1 b = some (.lst []) ∧ H b = none ∧ b ≠ fl) ⟨Same.new hfl, [], rfl, upd_same, List.nodup_nil, fun _ h => nomatch h⟩ ?_ ?_
    · rintro j H1 hj ⟨e1, as, rfl, h3, hnd, has⟩
      refine ⟨rfl, ?_⟩
      refine ⟨Nat.zero_le _, fun q hq => ?_⟩
      have n1 : Same H1 (upd H1 q (.lst [])) := Same.new hq
      have qa : q ∉ as := fun z => by
        have := (has q z).1
        rw [hq] at this
        cases this
      refine ⟨_, n1 _ _ h3, by rw [List.length_map]; exact szl _ (by omega), Same.mut (e1.trans n1) hfl, as ++ [q], by rw [List.length_append]; rfl, ?_, ?_, fun b hb => ?_⟩
      · rw [upd_same, List.map_append]; rfl
      · exact List.nodup_append.mpr ⟨hnd, List.nodup_cons.mpr ⟨fun h => (nomatch h), List.nodup_nil⟩, fun x hx y hy e => by
          rw [List.mem_singleton.mp hy] at e
          exact qa (e ▸ hx)⟩
      · rcases List.mem_append.mp hb with hb | hb
        · obtain ⟨c1, c2, c3⟩ := has b hb
          exact ⟨by rw [upd_ne c3]; exact n1 _ _ c1, c2, c3⟩
        · have e := List.mem_singleton.mp hb
          subst e
          have hbf : b ≠ fl := fun z => by rw [z] at hq; rw [hq] at h3; cases h3
          exact ⟨by rw [upd_ne hbf, upd_same], e1.free hq, hbf⟩
    rintro H1 ⟨e1, as, hasl, h3, hnd, has⟩
    refine ⟨_, rfl, fa, rfl, ⟨_, SqL.of (e1 _ _ hfa)⟩, for_list (K := K) (a := fa) (xs := nv F) (fun i σ H2 => ∃ (Ls : List (List Lk)) (u v z y : Option V), σ = [some (.int n), some (.ref a), some (.ref fa), some (.ref fl), u, v, z, y] ∧ Same H H2 ∧
        H2 fl = some (.lst (as.map V.ref)) ∧ LkAt H2 as Ls ∧ LinksOk n ps (F.take i) Ls)
      ⟨List.replicate n [], none, none, none, none, rfl, e1, h3, ⟨by rw [List.length_replicate]; exact hasl, hnd, fun u b l hu hl => ?_⟩, LinksOk.start n ps⟩ (fun i σ H2 _ ⟨_, _, _, _, _, _, e, _⟩ => SqL.of (e _ _ hfa)) ?_ ?_⟩
    · have := List.mem_of_getElem? hl
      rw [List.eq_of_mem_replicate this]
      exact ⟨[], (has b (List.mem_of_getElem? hu)).1, .nil⟩
    · rintro i x σ H2 hi ⟨Ls, u, v, z, y, rfl, e, h4, hL, hO⟩
      obtain ⟨j, hj, rfl⟩ := nv_get hi
      have hjl := hF j (List.mem_of_getElem? hj)
      obtain ⟨⟨t, hd⟩, hed⟩ : ∃ ed, ps[j]? = some ed := ⟨_, List.getElem?_eq_getElem hjl⟩
      obtain ⟨b1, b2⟩ := hp.at_ hed
      obtain ⟨_, hx2, t2, rfl, ht2⟩ := Paired.at_ h2 hed
      obtain ⟨at_, hat⟩ : ∃ b, as[t]? = some b := ⟨_, List.getElem?_eq_getElem (by omega)⟩
      obtain ⟨ah, hah⟩ : ∃ b, as[hd]? = some b := ⟨_, List.getElem?_eq_getElem (by omega)⟩
      have ml : ∀ l ∈ Ls, l.length ≤ 2000 := fun l hl' => by
        have := hO.few l hl'
        rw [List.length_take] at this
        omega
      refine ⟨_, rfl, _, rfl, a, _, _, _, rfl, rfl, SqL.of (e _ _ h1), atI_nat hx2, t2, _, rfl, SqT.of (e _ _ ht2), rfl, _, _, rfl, _, _, rfl, rfl, ?_⟩
      obtain ⟨l1, hl1⟩ : ∃ l, Ls[t]? = some l := ⟨_, List.getElem?_eq_getElem (by rw [hO.len]; exact b1)⟩
      obtain ⟨xs1, hx1, hp1⟩ := hL.at_ t at_ l1 hat hl1
      refine ⟨_, rfl, _, rfl, fl, _, _, _, rfl, rfl, SqL.of h4, refs_at hat, .inl ⟨rfl, _, SqL.of hx1⟩, _, rfl, _, rfl, (by show 3 ≤ sizeLine; decide), fun q hq => ?_⟩
      have n1 : Same H2 (upd H2 q (.tup [.int (j : Nat), .int 1, .int (hd : Nat)])) := Same.new hq
      have hs1 : xs1.length < sizeLine := by
        rw [Paired.length hp1]
        have := ml l1 (List.mem_of_getElem? hl1)
        exact szl _ (by omega)
      refine ⟨at_, xs1, _, rfl, rfl, n1 _ _ hx1, hs1, ?_⟩
      have hL1 := hL.add (x := (j, 1, hd)) hat hx1 hq
      have atn : H at_ = none := (has at_ (List.mem_of_getElem? hat)).2.1
      have atf : fl ≠ at_ := fun z => (has at_ (List.mem_of_getElem? hat)).2.2 z.symm
      have ahn : H ah = none := (has ah (List.mem_of_getElem? hah)).2.1
      have ahf : fl ≠ ah := fun z => (has ah (List.mem_of_getElem? hah)).2.2 z.symm
      have e5 : Same H (upd (upd H2 q (.tup [.int (j : Nat), .int 1, .int (hd : Nat)])) at_ (.lst (xs1 ++ [.ref q]))) := Same.mut (e.trans n1) atn
      have h5 : (upd (upd H2 q (.tup [.int (j : Nat), .int 1, .int (hd : Nat)])) at_ (.lst (xs1 ++ [.ref q]))) fl = some (.lst (as.map V.ref)) := by rw [upd_ne atf]; exact n1 _ _ h4
      obtain ⟨l2, hl2⟩ : ∃ l, (addAt Ls t (j, 1, hd))[hd]? = some l := ⟨_, List.getElem?_eq_getElem (by rw [addAt_len, hO.len]; exact b2)⟩
      obtain ⟨xs2, hx3, hp2⟩ := hL1.at_ hd ah l2 hah hl2
      refine ⟨_, rfl, _, rfl, fl, _, _, _, rfl, rfl, SqL.of h5, refs_at hah, .inl ⟨rfl, _, SqL.of hx3⟩, _, rfl, _, rfl, _, rfl, (by show 3 ≤ sizeLine; decide), fun r hr => ?_⟩
      have hs2 : xs2.length < sizeLine := by
        rw [Paired.length hp2]
        have : l2.length ≤ 2001 := by
          rw [addAt_get] at hl2
          split at hl2
          · cases q3 : Ls[hd]? with
            | none => rw [q3] at hl2; cases hl2
            | some l0 =>
              rw [q3] at hl2
              cases hl2
              have := ml l0 (List.mem_of_getElem? q3)
              rw [List.length_append]
              simp
              omega
          · have := ml l2 (List.mem_of_getElem? hl2)
            omega
        exact szl _ (by omega)
      have n2 := Same.new (o := .tup [.int (j : Nat), .int (-1), .int (t : Nat)]) hr
      refine ⟨ah, xs2, _, rfl, rfl, n2 _ _ hx3, hs2, ?_⟩
      refine ⟨_, _, _, _, _, rfl, Same.mut (e5.trans n2) ahn, ?_, hL1.add (x := (j, -1, t)) hah hx3 hr, ?_⟩
      · rw [upd_ne ahf]; exact n2 _ _ h5
      · rw [tk_snoc hj]
        exact hO.add hed b1 b2
    · rintro σ H2 ⟨Ls, u, v, z, y, rfl, e, h4, hL, hO⟩
      rw [List.length_map, List.take_length] at hO
      exact ⟨_, rfl, k H2 fl Ls e hfl ⟨as, h4, hL⟩ hO⟩
end
end Tt
end
section
set_option maxHeartbeats 4000000
namespace Tt
open PySem PySem.Spec PyProof.Rows L2
/-! ### the paths' dict in the heap -/
def DR (H : Hp) (kv : Key × V) (x : Nat × Pt) : Prop := kv.1 = Sum.inl (x.1 : Int) ∧ LstR StepR H kv.2 x.2
def DictAt (H : Hp) (d : Addr) (K : Kv) : Prop := ∃ kvs, H d = some (.dK kvs) ∧ Paired (DR H) kvs K
theorem DR.same {H H' : Hp} {kv : Key × V} {x : Nat × Pt} (e : Same H H') (h : DR H kv x) : DR H' kv x := ⟨h.1, m_Lst m_Step _ _ _ _ e h.2⟩
theorem DictAt.same {H H' : Hp} {d : Addr} {K : Kv} (e : Same H H') (h : DictAt H d K) : DictAt H' d K := by
  obtain ⟨kvs, h1, h2⟩ := h
  exact ⟨kvs, e _ _ h1, Paired.mapP h2 fun _ _ q => q.same e⟩
theorem dict_find {H : Hp} (u : Nat) : ∀ {kvs : List (Key × V)} {K : Kv}, Paired (DR H) kvs K → (valV kvs (Sum.inl (u : Int)) = none ∧ u ∉ keys K) ∨ ∃ v P, valV kvs (Sum.inl (u : Int)) = some v ∧ (u, P) ∈ K ∧ LstR StepR H v P
  | _, _, .nil => .inl ⟨rfl, fun h => nomatch h⟩
  | kv :: kvs, x :: K, .cons r t => by
    obtain ⟨k, v⟩ := kv
    obtain ⟨y, P⟩ := x
    obtain ⟨r1, r2⟩ := r
    have r1 : k = Sum.inl (y : Int) := r1
    subst r1
    by_cases c : y = u
    · subst c
      exact .inr ⟨v, P, by unfold valV; rw [List.find?_cons_of_pos (by exact decide_eq_true rfl)]; rfl, List.mem_cons_self, r2⟩
    · have hn : ¬ decide ((Sum.inl (y : Int) : Key) = Sum.inl (u : Int)) = true := fun z => c (by have := Sum.inl.inj (of_decide_eq_true z); omega)
      have e : valV ((Sum.inl (y : Int), v) :: kvs) (Sum.inl (u : Int)) = valV kvs (Sum.inl (u : Int)) := by
        unfold valV
        rw [List.find?_cons_of_neg (p := fun kv : Key × V => decide (kv.1 = Sum.inl (u : Int))) hn]
      rw [e]
      rcases dict_find u t with ⟨a, b⟩ | ⟨v', P', a, b, c'⟩
      · exact .inl ⟨a, fun z => (List.mem_cons.mp z).elim (fun z => c z.symm) b⟩
      · exact .inr ⟨v', P', a, List.mem_cons_of_mem _ b, c'⟩
/-- .. and no value is the list at b -/
def DRx (b : Addr) (H : Hp) (kv : Key × V) (x : Nat × Pt) : Prop := DR H kv x ∧ kv.2 ≠ .ref b
def DictX (b : Addr) (H : Hp) (d : Addr) (K : Kv) : Prop := ∃ kvs, H d = some (.dK kvs) ∧ Paired (DRx b H) kvs K
theorem DictX.at_ {b : Addr} {H : Hp} {d : Addr} {K : Kv} (h : DictX b H d K) : DictAt H d K := by
  obtain ⟨kvs, h1, h2⟩ := h
  exact ⟨kvs, h1, Paired.mapP h2 fun _ _ q => q.1⟩
theorem DictX.same {b : Addr} {H H' : Hp} {d : Addr} {K : Kv} (e : Same H H') (h : DictX b H d K) : DictX b H' d K := by
  obtain ⟨kvs, h1, h2⟩ := h
  exact ⟨kvs, e _ _ h1, Paired.mapP h2 fun _ _ q => ⟨q.1.same e, q.2⟩⟩
theorem DictX.of {b : Addr} {H : Hp} {d : Addr} {K : Kv} (h : DictAt H d K) (hb : H b = none) : DictX b H d K := by
  obtain ⟨kvs, h1, h2⟩ := h
  refine ⟨kvs, h1, Paired.mapP h2 fun kv x q => ⟨q, fun z => ?_⟩⟩
  obtain ⟨_, a, e, xs, ha, _⟩ := q
  rw [z] at e
  cases e
  rw [hb] at ha
  cases ha
theorem keys_mem {K : Kv} {u : Nat} {P : Pt} (h : (u, P) ∈ K) : u ∈ keys K := List.mem_map.mpr ⟨_, h, rfl⟩
section
variable {P : Program} {w : World} {K : PySem.W.Frag} {mg : Str → Option Value} {base : Heap}
/-- what holds within a round: K0 the paths ahead of it, lvl the level, lt the later ones -/
structure Rnd (n : Nat) (ps : Es) (F : List Nat) (s : Nat) (Ls : List (List Lk)) (K0 : Kv) (lvl : List Nat) (a : Nat) (Kp : Kv) (lt : List Nat) : Prop where
  bf : BF n ps F s Kp
  sub : ∀ u ∈ keys K0, u ∈ keys Kp
  lat : ∀ u ∈ lt, u ∈ keys Kp
  all : ∀ u ∈ keys Kp, u ∈ lvl ∨ u ∈ lt ∨ Cov Ls (keys Kp) u
  dn : ∀ u ∈ lvl.take a, Cov Ls (keys Kp) u
  len : Kp.length = K0.length + lt.length
theorem Rnd.add {n : Nat} {ps : Es} {F : List Nat} {s : Nat} {Ls : List (List Lk)} {K0 : Kv} {lvl : List Nat} {a : Nat} {Kp : Kv} {lt : List Nat} (R : Rnd n ps F s Ls K0 lvl a Kp lt) (hp : EdOk n ps) (L : LinksOk n ps F Ls) {u i v : Nat} {w : Int} {P : Pt} {l : List Lk}
    (hu : (u, P) ∈ Kp) (hl : Ls[u]? = some l) (hx : (i, w, v) ∈ l) (hv : v ∉ keys Kp) : Rnd n ps F s Ls K0 lvl a (Kp ++ [(v, P ++ [(i, w)])]) (lt ++ [v]) := by
  have mono : ∀ k ∈ keys Kp, k ∈ keys (Kp ++ [(v, P ++ [(i, w)])]) := fun k hk => by rw [keys_snoc]; exact List.mem_append_left _ hk
  have new : v ∈ keys (Kp ++ [(v, P ++ [(i, w)])]) := by rw [keys_snoc]; exact List.mem_append_right _ (List.mem_singleton.mpr rfl)
  refine ⟨R.bf.add hp L hu hl hx hv, fun k hk => mono k (R.sub k hk), fun k hk => ?_, fun k hk => ?_, fun k hk => (R.dn k hk).mono mono, ?_⟩
  · rcases List.mem_append.mp hk with h | h
    · exact mono k (R.lat k h)
    · rw [List.mem_singleton.mp h]; exact new
  · rw [keys_snoc] at hk
    rcases List.mem_append.mp hk with h | h
    · rcases R.all k h with h | h | h
      · exact .inl h
      · exact .inr (.inl (List.mem_append_left _ h))
      · exact .inr (.inr (h.mono mono))
    · exact .inr (.inl (List.mem_append_right _ h))
  · rw [List.length_append, List.length_append, R.len]
    simp
    omega
def sp_walk_paths : Sp := fun vs H Q _ => ∃ (la : Addr) (s n : Nat) (ps : Es) (F : List Nat) (Ls : List (List Lk)), vs = [.ref la, .int s] ∧ LinksAt H la Ls ∧ LinksOk n ps F Ls ∧ EdOk n ps ∧ n ≤ 30 ∧ F.length ≤ 1000 ∧ s < n ∧
  ∀ H' d Kp, Same H H' → H d = none → DictAt H' d Kp → PathsOk n ps F s Kp → Q (.ref d) H'
theorem ok_walk_paths (T : Tx K mg) : FnOk P w K mg base CX0 1 T.walk_paths.f T.walk_paths.fd N_walk_paths_ps sp_walk_paths := by
  refine T.walk_paths.F.ok sc_walk_paths (fun vs H Q E h => ?_) (fun cdv A outer s H vs Q E hr h => ?_)
  · obtain ⟨la, s0, n, ps, F, Ls, rfl, hL, hO, hp, hn, hF, hs, k⟩ := h
    rfl
  · obtain ⟨la, s0, n, ps, F, Ls, rfl, hL, hO, hp, hn, hF, hs, k⟩ := h
    have hu := hu_of hr
    refine ⟨_, PSs.nox (pss_cons (ps_set (i := 2) sc_walk_paths.nd rfl (by first | exact Or.inl rfl | exact Or.inr rfl) (pe_disp (pps_cons (pv 1) (pe_lst pa_nil) pps_nil) (by rfl) (by rfl) (fun z => by cases z) (by decide)))
      (pss_cons (ps_set (i := 3) sc_walk_paths.nd rfl (by first | exact Or.inl rfl | exact Or.inr rfl) (pe_lst (pa_cons (pv 1) pa_nil)))
      (pss_cons (ps_while PassesOwn.never (pt_truth (pv 3) (by intro _; rfl))
        (pss_cons (ps_set (i := 4) sc_walk_paths.nd rfl (by first | exact Or.inl rfl | exact Or.inr rfl) (pe_lst pa_nil))
        (pss_cons (ps_for PassesOwn.never rfl (pi_list (pv 3)) (pg_name (i := 5) sc_walk_paths.nd rfl (by first | exact Or.inl rfl | exact Or.inr rfl))
          (pss_one (ps_for PassesOwn.never rfl (pi_list (pe_ix ix_list (pv 0) (pv 5) (fun _ _ => rfl))) (pg_tup rfl (pgs_cons (pg_name (i := 6) sc_walk_paths.nd rfl (by first | exact Or.inl rfl | exact Or.inr rfl)) (pgs_cons (pg_name (i := 7) sc_walk_paths.nd rfl (by first | exact Or.inl rfl | exact Or.inr rfl)) (pgs_cons (pg_name (i := 8) sc_walk_paths.nd rfl (by first | exact Or.inl rfl | exact Or.inr rfl)) pgs_nil))))
            (pss_one (ps_if (pt_cmp (pc_dnotin hu (pv 8) (pv 2))) (pss_cons (ps_dput hu (pv 2) (pv 8) (pe_op op_cat (pe_dget hu (pv 2) (pv 5) (fun _ _ => rfl)) (pe_lst (pa_cons (pe_tup (pa_cons (pv 6) (pa_cons (pv 7) pa_nil))) pa_nil))) rfl)
              (pss_one (ps_expr (pe_bm PySem.F.plainAttrs_list PySem.F.slot_list_append PySem.F.type_list_append mt_append (pv 4) (pa_cons (pv 8) pa_nil))))) pss_nil)))))
        (pss_one (ps_set (i := 3) sc_walk_paths.nd rfl (by first | exact Or.inl rfl | exact Or.inr rfl) (pv 4))))))
      (pss_one (ps_ret (pv 2)))))), ?_⟩
    obtain ⟨as, hla, hA⟩ := id hL
    intro d hd
    refine ⟨_, rfl, Nat.zero_le _, fun q0 hq0 => ?_⟩
    have s1 : Same H (upd H d (.dK [])) := Same.new hd
    have s2 : Same (upd H d (.dK [])) (upd (upd H d (.dK [])) q0 (.lst [])) := Same.new hq0
    refine ⟨s2 _ _ upd_same, [(Sum.inl (s0 : Int), .ref q0)], rfl, (by show 1 ≤ 15; decide), ?_⟩
    have hq0d : q0 ≠ d := (ne_of_none (H := upd H d (.dK [])) upd_same hq0).symm
    have s3 : Same H (upd (upd (upd H d (.dK [])) q0 (.lst [])) d (.dK (mergeK [] [(Sum.inl (s0 : Int), .ref q0)]))) := Same.mut (s1.trans s2) hd
    have em : mergeK [] [((Sum.inl (s0 : Int) : Key), V.ref q0)] = [(Sum.inl (s0 : Int), V.ref q0)] := rfl
    rw [em] at s3 ⊢
    refine ⟨_, rfl, (by show 1 ≤ sizeLine; decide), fun lv0 hlv0 => ?_⟩
    have s4 := Same.new (o := .lst [.int (s0 : Int)]) hlv0
    have hD0 : DictAt (upd (upd (upd (upd H d (.dK [])) q0 (.lst [])) d (.dK [(Sum.inl (s0 : Int), .ref q0)])) lv0 (.lst [.int (s0 : Int)])) d [(s0, [])] := by
      refine ⟨_, s4 _ _ upd_same, .cons ⟨rfl, q0, rfl, [], s4 _ _ ?_, .nil⟩ .nil⟩
      rw [upd_ne hq0d, upd_same]
    refine ⟨fun m σ H2 => ∃ (Kp : Kv) (lvl : List Nat) (lv : Addr) (u v z y x : Option V), m = 2 * (n + 1 - Kp.length) + (if lvl = [] then 0 else 1) ∧ σ = [some (.ref la), some (.int s0), some (.ref d), some (.ref lv), u, v, z, y, x] ∧ Same H H2 ∧ H2 lv = some (.lst (nv lvl)) ∧
        H lv = none ∧ DictAt H2 d Kp ∧ BF n ps F s0 Kp ∧ (∀ u ∈ lvl, u ∈ keys Kp) ∧ (∀ u ∈ keys Kp, u ∈ lvl ∨ Cov Ls (keys Kp) u) ∧ lvl.length ≤ Kp.length,
      ⟨_, [(s0, [])], [s0], lv0, none, none, none, none, none, rfl, rfl, s3.trans s4, upd_same, s3.free hlv0, hD0, BF.start hs, fun u hu => hu, fun u hu => .inl hu, Nat.le_refl _⟩, ?_⟩
    rintro m σ H2 ⟨K0, lvl, lv, u, v, z, y, x, rfl, rfl, e, hlv, hlvn, hD, hB, h1, h2, h3⟩
    have hK0 := hB.len
    refine ⟨_, rfl, !(nv lvl).isEmpty, .inl ⟨_, SqL.of hlv, rfl⟩, ?_⟩
    cases hl0 : lvl with
    | nil =>
      subst hl0
      exact ⟨_, rfl, k H2 d K0 e hd hD (PathsOk.of hB hO fun u hu => (h2 u hu).resolve_left fun h => nomatch h)⟩
    | cons x0 r0 =>
      rw [← hl0]
      have hne : lvl ≠ [] := fun z => by rw [z] at hl0; cases hl0
      have eb : (!(nv lvl).isEmpty) = true := by rw [hl0]; rfl
      rw [eb]
      refine iteT ?_
      refine ⟨fun σ' H' => ∃ m', m' < 2 * (n + 1 - K0.length) + (if lvl = [] then 0 else 1) ∧ ∃ (Kp : Kv) (lvl : List Nat) (lv : Addr) (u v z y x : Option V), m' = 2 * (n + 1 - Kp.length) + (if lvl = [] then 0 else 1) ∧
        σ' = [some (.ref la), some (.int s0), some (.ref d), some (.ref lv), u, v, z, y, x] ∧ Same H H' ∧ H' lv = some (.lst (nv lvl)) ∧
        H lv = none ∧ DictAt H' d Kp ∧ BF n ps F s0 Kp ∧ (∀ u ∈ lvl, u ∈ keys Kp) ∧ (∀ u ∈ keys Kp, u ∈ lvl ∨ Cov Ls (keys Kp) u) ∧ lvl.length ≤ Kp.length, fun _ _ h => h, ?_⟩
      refine ⟨Nat.zero_le _, fun lt hlt => ?_⟩
      have n0 : Same H2 (upd H2 lt (.lst [])) := Same.new hlt
      have hltn := e.free hlt
      have hll : lv ≠ lt := ne_of_none hlv hlt
      refine ⟨_, rfl, lv, rfl, ⟨_, SqL.of (n0 _ _ hlv)⟩, for_list (K := K) (a := lv) (xs := nv lvl) (fun a σ H3 => ∃ (Kp : Kv) (ltl : List Nat) (v z y x : Option V), σ = [some (.ref la), some (.int s0), some (.ref d), some (.ref lv), some (.ref lt), v, z, y, x] ∧ Same H H3 ∧ H3 lv = some (.lst (nv lvl)) ∧
        H3 lt = some (.lst (nv ltl)) ∧ DictX lt H3 d Kp ∧ Rnd n ps F s0 Ls K0 lvl a Kp ltl)
        ⟨K0, [], v, z, y, x, rfl, e.trans n0, n0 _ _ hlv, upd_same, (DictX.of hD hlt).same n0, ⟨hB, fun _ h => h, (fun _ h => nomatch h), fun u hu => (h2 u hu).elim .inl fun h => .inr (.inr h), (fun u h => by rw [List.take_zero] at h; cases h), rfl⟩⟩
        (fun a σ H3 _ ⟨_, _, _, _, _, _, _, _, h, _⟩ => SqL.of h) ?_ ?_⟩
      · rintro a x1 σ H3 ha ⟨Kp, ltl, v, z, y, x, rfl, e3, hlv3, hlt3, hD3, R⟩
        obtain ⟨nd, hnd, rfl⟩ := nv_get ha
        have hndK : nd ∈ keys Kp := R.sub nd (h1 nd (List.mem_of_getElem? hnd))
        have hndn := R.bf.lt hndK
        have hA3 := hA.same e3
        obtain ⟨an, han⟩ : ∃ b, as[nd]? = some b := ⟨_, List.getElem?_eq_getElem (by rw [hA.len, hO.len]; exact hndn)⟩
        obtain ⟨l, hl⟩ : ∃ l, Ls[nd]? = some l := ⟨_, List.getElem?_eq_getElem (by rw [hO.len]; exact hndn)⟩
        obtain ⟨xs, hxs, hxp⟩ := hA.at_ nd an l han hl
        refine ⟨_, rfl, _, rfl, la, _, _, _, rfl, rfl, SqL.of (e3 _ _ hla), refs_at han, an, rfl, ⟨_, SqL.of (e3 _ _ hxs)⟩, for_list (K := K) (a := an) (xs := xs) (fun b σ H4 => ∃ (Kp : Kv) (ltl : List Nat) (z y x : Option V), σ = [some (.ref la), some (.int s0), some (.ref d), some (.ref lv), some (.ref lt), some (.int (nd : Int)), z, y, x] ∧ Same H H4 ∧ H4 lv = some (.lst (nv lvl)) ∧
          H4 lt = some (.lst (nv ltl)) ∧ DictX lt H4 d Kp ∧ Rnd n ps F s0 Ls K0 lvl a Kp ltl ∧ ∀ x ∈ l.take b, x.2.2 ∈ keys Kp)
          ⟨Kp, ltl, z, y, x, rfl, e3, hlv3, hlt3, hD3, R, fun x h => by rw [List.take_zero] at h; cases h⟩ (fun b σ H4 _ ⟨_, _, _, _, _, _, h, _⟩ => SqL.of (h _ _ hxs)) ?_ ?_⟩
        · rintro b x2 σ H4 hb ⟨Kp, ltl, z, y, x, rfl, e4, hlv4, hlt4, hD4, R4, hdn⟩
          obtain ⟨⟨i, w, v⟩, hxl, t3, rfl, ht3⟩ := Paired.at2 hxp hb
          have hxm := List.mem_of_getElem? hxl
          obtain ⟨kvs, hk1, hk3⟩ := id hD4
          have hk2 : Paired (DR H4) kvs Kp := Paired.mapP hk3 fun _ _ q => q.1
          refine ⟨t3, _, rfl, SqT.of (e4 _ _ ht3), rfl, _, _, rfl, _, _, rfl, _, _, rfl, rfl, ?_⟩
          refine ⟨_, rfl, _, rfl, d, _, rfl, DGet.k (k := Sum.inl (v : Int)) hk1, _, rfl, ?_⟩
          rcases dict_find v hk2 with ⟨c1, c2⟩ | ⟨vv, PP, c1, c2, c3⟩
          · rw [c1]
            refine iteT ?_
            have hndK4 : nd ∈ keys Kp := R4.sub nd (h1 nd (List.mem_of_getElem? hnd))
            rcases dict_find nd hk2 with ⟨_, c4⟩ | ⟨pv, PP, c4, c5, pa, rfl, ys, hpa, hys⟩
            · exact absurd hndK4 c4
            have hPl := (R4.bf.ok _ c5).2.2
            have hKl := R4.bf.len
            have hyl := Paired.length hys
            refine ⟨_, rfl, _, rfl, d, _, rfl, by have z := DGet.k (k := Sum.inl (nd : Int)) hk1; rw [c4] at z; exact z, _, rfl, _, rfl, (by show 2 ≤ sizeLine; decide), fun t ht => ⟨(by show 1 ≤ sizeLine; decide), fun q hq => ?_⟩⟩
            have m1 : Same H4 (upd H4 t (.tup [.int (i : Int), .int w])) := Same.new ht
            have m2 : Same (upd H4 t (.tup [.int (i : Int), .int w])) (upd (upd H4 t (.tup [.int (i : Int), .int w])) q (.lst [.ref t])) := Same.new hq
            refine ⟨pa, q, ys, _, rfl, rfl, m2 _ _ (m1 _ _ hpa), upd_same, ?_, fun p hp' => ?_⟩
            · rw [hyl]; exact sz _ (by simp; dsimp only at hPl; omega)
            have m3 := Same.new (o := .lst (ys ++ [.ref t])) hp'
            have m := (m1.trans m2).trans m3
            have hk5 := m _ _ hk1
            refine ⟨_, rfl, _, rfl, d, _, rfl, DPut.k (k := Sum.inl (v : Int)) hk5 (by rw [Paired.length hk2]; exact szl _ (by omega)), ?_⟩
            rw [putK_new _ c1]
            have hdt : d ≠ lt := ne_of hk1 hlt4 (by intro z; cases z)
            have hdlv : d ≠ lv := ne_of hk1 hlv4 (by intro z; cases z)
            generalize hH5 : upd (upd (upd H4 t (.tup [.int (i : Int), .int w])) q (.lst [.ref t])) p (.lst (ys ++ [.ref t])) = H5 at m hk5 ⊢
            have hp5 : H5 p = some (.lst (ys ++ [.ref t])) := by rw [← hH5]; exact upd_same
            have ht5 : H5 t = some (.tup [.int (i : Int), .int w]) := by rw [← hH5]; exact m3 _ _ (m2 _ _ upd_same)
            have hlt5 := m _ _ hlt4
            refine ⟨_, rfl, .inl ⟨rfl, _, SqL.of (by rw [upd_ne hdt.symm]; exact hlt5)⟩, _, rfl, lt, _, _, rfl, rfl, by rw [upd_ne hdt.symm]; exact hlt5, ?_, ?_⟩
            · rw [List.length_map]
              have := R4.len
              exact szl _ (by omega)
            have hpd : p ≠ d := (ne_of hk5 hp5 (by intro z; cases z)).symm
            have hpl : p ≠ lt := fun z => by
              rw [z] at hp'
              have := m2 _ _ (m1 _ _ hlt4)
              rw [hp'] at this
              cases this
            have htd : t ≠ d := ne_of ht5 hk5 (by intro z; cases z)
            have htl : t ≠ lt := ne_of ht5 hlt5 (by intro z; cases z)
            have st : ∀ (v' : V) (x : Nat × Int), StepR H4 v' x → StepR (upd (upd H5 d (.dK (kvs ++ [(Sum.inl (v : Int), .ref p)]))) lt (.lst (nv ltl ++ [.int (v : Int)]))) v' x := fun v' x ⟨t', r1, r2⟩ => by
              have r3 := m _ _ r2
              exact ⟨t', r1, by rw [upd_ne (ne_of r3 hlt5 (by intro z; cases z)), upd_ne (ne_of r3 hk5 (by intro z; cases z))]; exact r3⟩
            have stay : ∀ (kv : Key × V) (x : Nat × Pt), DRx lt H4 kv x → DRx lt (upd (upd H5 d (.dK (kvs ++ [(Sum.inl (v : Int), .ref p)]))) lt (.lst (nv ltl ++ [.int (v : Int)]))) kv x := fun kv x hr' => by
              obtain ⟨⟨r1, a', r2, ys', r3, r4⟩, r5⟩ := hr'
              have r6 := m _ _ r3
              have al : a' ≠ lt := fun z => r5 (by rw [r2, z])
              exact ⟨⟨r1, a', r2, ys', by rw [upd_ne al, upd_ne (ne_of r6 hk5 (by intro z; cases z))]; exact r6, Paired.mapP r4 st⟩, r5⟩
            refine ⟨_, _, _, _, _, rfl, Same.mut (Same.mut (e4.trans m) hd) hltn, by rw [upd_ne hll, upd_ne hdlv.symm]; exact m _ _ hlv4, by rw [upd_same, nv_snoc], ?_, R4.add hp hO c5 hl hxm c2, ?_⟩
            · refine ⟨_, by rw [upd_ne hdt, upd_same], Paired.snoc (Paired.mapP hk3 stay) ⟨⟨rfl, p, rfl, _, by rw [upd_ne hpl, upd_ne hpd]; exact hp5, Paired.snoc (Paired.mapP hys st) ⟨t, rfl, by rw [upd_ne htl, upd_ne htd]; exact ht5⟩⟩, fun z => hpl (V.ref.inj z)⟩⟩
            · intro x hx
              rw [tk_snoc hxl] at hx
              rw [keys_snoc]
              rcases List.mem_append.mp hx with hx | hx
              · exact List.mem_append_left _ (hdn x hx)
              · rw [List.mem_singleton.mp hx]
                exact List.mem_append_right _ (List.mem_singleton.mpr rfl)
          · rw [c1]
            refine iteF ?_
            refine ⟨Kp, ltl, _, _, _, rfl, e4, hlv4, hlt4, hD4, R4, fun x hx => ?_⟩
            rw [tk_snoc hxl] at hx
            rcases List.mem_append.mp hx with hx | hx
            · exact hdn x hx
            · rw [List.mem_singleton.mp hx]
              exact keys_mem c2
        · rintro σ H4 ⟨Kp, ltl, z, y, x, rfl, e4, hlv4, hlt4, hD4, R4, hdn⟩
          refine ⟨Kp, ltl, _, _, _, _, rfl, e4, hlv4, hlt4, hD4, R4.bf, R4.sub, R4.lat, R4.all, fun u hu => ?_, R4.len⟩
          rw [tk_snoc hnd] at hu
          rcases List.mem_append.mp hu with hu | hu
          · exact R4.dn u hu
          · rw [List.mem_singleton.mp hu]
            intro l' x' hl' hx'
            rw [hl] at hl'
            cases hl'
            rw [Paired.length hxp, List.take_length] at hdn
            exact hdn x' hx'
      · rintro σ H3 ⟨Kp, ltl, v, z, y, x, rfl, e3, hlv3, hlt3, hD3, R⟩
        have hKl := R.bf.len
        have hlen := R.len
        refine ⟨_, rfl, _, ?_, Kp, ltl, lt, _, _, _, _, _, rfl, rfl, e3, hlt3, hltn, hD3.at_, R.bf, R.lat, fun u hu => ?_, by omega⟩
        · rw [if_neg hne]
          by_cases c : ltl = []
          · rw [if_pos c]; omega
          · rw [if_neg c]
            have : 0 < ltl.length := List.length_pos_iff.mpr c
            omega
        · have hd' := R.dn
          rw [List.length_map, List.take_length] at hd'
          rcases R.all u hu with h | h | h
          · exact .inr (hd' u h)
          · exact .inl h
          · exact .inr h
end
end Tt
end
section
set_option maxHeartbeats 4000000
namespace Tt
open PySem PySem.Spec PyProof.Rows L2
/-- the keys of kvs are nodes of which S speaks -/
def KeysIn (S : Nat → Prop) (kvs : List (Key × V)) : Prop := ∀ kv ∈ kvs, ∃ u : Nat, S u ∧ kv.1 = Sum.inl (u : Int)
theorem KeysIn.put {S : Nat → Prop} {kvs : List (Key × V)} (h : KeysIn S kvs) {u : Nat} (hu : S u) (v : V) : KeysIn S (putK kvs (Sum.inl (u : Int)) v) := by
  intro kv hk
  unfold putK at hk
  split at hk
  · obtain ⟨x, hx, rfl⟩ := List.mem_map.mp hk
    obtain ⟨u', h1, h2⟩ := h x hx
    split
    · exact ⟨u', h1, h2⟩
    · exact ⟨u', h1, h2⟩
  · rcases List.mem_append.mp hk with hk | hk
    · exact h kv hk
    · rw [List.mem_singleton.mp hk]
      exact ⟨u, hu, rfl⟩
theorem KeysIn.merge {S : Nat → Prop} : ∀ (more : List (Key × V)) {kvs : List (Key × V)}, KeysIn S kvs → KeysIn S more → KeysIn S (mergeK kvs more)
  | [], _, h, _ => h
  | kv :: more, kvs, h, hm => by
    obtain ⟨u, hu, e⟩ := hm kv List.mem_cons_self
    show KeysIn S (mergeK (putK kvs kv.1 kv.2) more)
    rw [e]
    exact KeysIn.merge more (h.put hu kv.2) fun x hx => hm x (List.mem_cons_of_mem _ hx)
theorem KeysIn.val {S : Nat → Prop} {kvs : List (Key × V)} (h : KeysIn S kvs) {u : Nat} {v : V} (hv : valV kvs (Sum.inl (u : Int)) = some v) : S u := by
  unfold valV at hv
  cases q : kvs.find? fun kv => decide (kv.1 = Sum.inl (u : Int)) with
  | none => rw [q] at hv; cases hv
  | some kv =>
    have h1 := List.find?_some q
    obtain ⟨u', h2, h3⟩ := h kv (List.mem_of_find?_eq_some q)
    have h4 : kv.1 = Sum.inl (u : Int) := of_decide_eq_true h1
    rw [h3] at h4
    have : (u' : Int) = (u : Int) := Sum.inl.inj h4
    have : u' = u := by omega
    exact this ▸ h2
theorem KeysIn.imp {S S' : Nat → Prop} {kvs : List (Key × V)} (h : KeysIn S kvs) (hs : ∀ u, S u → S' u) : KeysIn S' kvs := fun kv hk => let ⟨u, a, b⟩ := h kv hk; ⟨u, hs u a, b⟩
/-- a list none of whose items is itself -/
def ListX {α : Type} (R : Rel α) (H : Hp) (a : Addr) (l : List α) : Prop := ∃ xs, H a = some (.lst xs) ∧ Paired (fun v x => R H v x ∧ v ≠ .ref a) xs l
theorem ListX.at_ {α : Type} {R : Rel α} {H : Hp} {a : Addr} {l : List α} (h : ListX R H a l) : ListAt R H a l := by
  obtain ⟨xs, h1, h2⟩ := h
  exact ⟨xs, h1, Paired.mapP h2 fun _ _ q => q.1⟩
abbrev iv (l : List Nat) : List Int := l.map fun n : Nat => (n : Int)
theorem iv_nv (l : List Nat) : (iv l).map V.int = nv l := by rw [List.map_map]; rfl
theorem perm_iv {ys : List Int} {l : List Nat} (h : ys.Perm (iv l)) : ∃ g : List Nat, ys = iv g ∧ g.Perm l := by
  refine ⟨ys.map Int.toNat, ?_, ?_⟩
  · have hn : ∀ y ∈ ys, 0 ≤ y := fun y hy => by
      obtain ⟨n, _, rfl⟩ := List.mem_map.mp (h.mem_iff.mp hy)
      omega
    show ys = (ys.map Int.toNat).map _
    rw [List.map_map]
    refine (List.map_id ys).symm.trans (List.map_congr_left fun y hy => ?_)
    have := hn y hy
    show y = ((y.toNat : Nat) : Int)
    omega
  · have := h.map Int.toNat
    rw [List.map_map] at this
    have e : List.map (Int.toNat ∘ fun n : Nat => (n : Int)) l = l := (List.map_congr_left fun n _ => by show Int.toNat (n : Int) = n; omega).trans (List.map_id l)
    rw [e] at this
    exact this
theorem dict_keys {H : Hp} : ∀ {kvs : List (Key × V)} {K : Kv}, Paired (DR H) kvs K → kvs.map (·.1) = (iv (keys K)).map Sum.inl
  | _, _, .nil => rfl
  | kv :: kvs, x :: K, .cons r t => by
    rw [List.map_cons, dict_keys t, r.1]
    rfl
section
variable {P : Program} {w : World} {K : PySem.W.Frag} {mg : Str → Option Value} {base : Heap}
def sp_components_of : Sp := fun vs H Q _ => ∃ (la : Addr) (n : Nat) (ps : Es) (F : List Nat) (Ls : List (List Lk)), vs = [.ref la] ∧ LinksAt H la Ls ∧ LinksOk n ps F Ls ∧ EdOk n ps ∧ n ≤ 30 ∧ F.length ≤ 1000 ∧
  ∀ H' p G, Same H H' → H p = none → ListAt (LstR NatR) H' p G → CompOk n ps F G → Q (.ref p) H'
theorem ok_components_of (T : Tx K mg) : FnOk P w K mg base CX0 2 T.components_of.f T.components_of.fd N_components_of_ps sp_components_of := by
  have G_walk_paths := ok_walk_paths (P := P) (w := w) (base := base) T
  refine T.components_of.F.ok sc_components_of (fun vs H Q E h => ?_) (fun cdv A outer s H vs Q E hr h => ?_)
  · obtain ⟨la, n, ps, F, Ls, rfl, hL, hO, hp, hn, hF, k⟩ := h
    rfl
  · obtain ⟨la, n, ps, F, Ls, rfl, hL, hO, hp, hn, hF, k⟩ := h
    have hu := hu_of hr
    refine ⟨_, PSs.nox (pss_cons (ps_set (i := 1) sc_components_of.nd rfl (by first | exact Or.inl rfl | exact Or.inr rfl) (pe_lst pa_nil))
      (pss_cons (ps_set (i := 2) sc_components_of.nd rfl (by first | exact Or.inl rfl | exact Or.inr rfl) pe_dnewK)
      (pss_cons (ps_for PassesOwn.never rfl (pi_range1 rfl T.n_range (pa_cons (pe_callB call_len_seq (by rfl) T.n_len (by decide +kernel) (pa_cons (pv 0) pa_nil)) pa_nil)) (pg_name (i := 3) sc_components_of.nd rfl (by first | exact Or.inl rfl | exact Or.inr rfl))
        (pss_one (ps_if (pt_cmp (pc_dnotin hu (pv 3) (pv 2))) (pss_cons (ps_set (i := 4) sc_components_of.nd rfl (by first | exact Or.inl rfl | exact Or.inr rfl) (pe_callB (call_sortedDI rfl) (by rfl) T.n_sorted (by decide +kernel) (pa_cons (pe_call G_walk_paths (hr.mono (by decide)) rfl T.walk_paths.m T.walk_paths.F.kp T.walk_paths.b .nil pass0 (pa_cons (pv 0) (pa_cons (pv 3) pa_nil))) pa_nil)))
          (pss_cons (ps_expr (pe_bm PySem.F.plainAttrs_dict PySem.F.slot_dict_update PySem.F.type_dict_update mt_dupd (pv 2) (pa_cons (pe_dc (own := [("other", 5)]) (g := gName 5) (tt := tYes) rfl sc_components_of.nd (pi_list (pv 4)) (blkOk_by (N := N_components_of) (sc := defScope (top 20)) (by decide +kernel)) (fun _ _ _ _ _ => (pg_name (i := 5) sc_components_of.nd rfl (by first | exact Or.inl rfl | exact Or.inr rfl))) (fun _ _ _ _ _ => pts_nil) (fun _ _ _ _ _ => (pv 5)) (fun _ _ _ _ _ => pe_bl)) pa_nil)))
          (pss_one (ps_expr (pe_bm PySem.F.plainAttrs_list PySem.F.slot_list_append PySem.F.type_list_append mt_append (pv 1) (pa_cons (pv 4) pa_nil)))))) pss_nil)))
      (pss_one (ps_ret (pv 1)))))), ?_⟩
    obtain ⟨as, hla, hA⟩ := id hL
    have hasn : as.length = n := by rw [hA.len, hO.len]
    refine ⟨Nat.zero_le _, fun fl hfl => ?_⟩
    have s1 : Same H (upd H fl (.lst [])) := Same.new hfl
    intro sd hsd
    have s2 : Same (upd H fl (.lst [])) (upd (upd H fl (.lst [])) sd (.dK [])) := Same.new hsd
    have hsdn := s1.free hsd
    have hfs : fl ≠ sd := ne_of_none upd_same hsd
    refine ⟨_, rfl, la, _, rfl, .inl (SqL.of (s2 _ _ (s1 _ _ hla))), _, rfl, by rw [List.length_map]; omega, by rw [List.length_map]; omega, ?_⟩
    rw [List.length_map, hasn, Int.toNat_natCast]
    refine for_range (lo := 0) (n := n) (fun i σ H2 => ∃ (G : List (List Nat)) (kvs : List (Key × V)) (u v z : Option V), σ = [some (.ref la), some (.ref fl), some (.ref sd), u, v, z] ∧ Same H H2 ∧ ListX (LstR NatR) H2 fl G ∧ H2 sd = some (.dK kvs) ∧
        kvs.length ≤ 30 * i ∧ KeysIn (fun u => Got ps F G u) kvs ∧ (∀ v, v < i → Got ps F G v) ∧ (∀ g ∈ G, (∃ r rest, g = r :: rest ∧ r < n) ∧ g.length ≤ n) ∧ G.length ≤ i)
      ⟨[], [], none, none, none, rfl, s1.trans s2, ⟨[], s2 _ _ upd_same, .nil⟩, upd_same, Nat.zero_le _, (fun _ h => nomatch h), (fun _ h => absurd h (Nat.not_lt_zero _)), (fun _ h => nomatch h), Nat.zero_le _⟩ ?_ ?_
    · rintro i σ H2 hi ⟨G, kvs, u, v, z, rfl, e, hG, hS, hk1, hk2, hv, hg, hGl⟩
      obtain ⟨xs, hx1, hx2⟩ := id hG
      have e0 : V.int (0 + (i : Int)) = V.int ((i : Nat) : Int) := by rw [Int.zero_add]
      rw [e0]
      refine ⟨_, rfl, _, rfl, sd, _, rfl, DGet.k (k := Sum.inl (i : Int)) hS, _, rfl, ?_⟩
      cases hval : valV kvs (Sum.inl (i : Int)) with
      | some y =>
        refine iteF ?_
        refine ⟨G, kvs, _, _, _, rfl, e, hG, hS, by omega, hk2, fun v hvi => ?_, hg, by omega⟩
        by_cases c : v = i
        · subst c; exact hk2.val hval
        · exact hv v (by omega)
      | none =>
        refine iteT ?_
        refine ⟨_, rfl, _, rfl, la, i, n, ps, F, Ls, rfl, hL.same e, hO, hp, hn, hF, hi, fun H3 d Kp e3 hd hD hP => ?_⟩
        obtain ⟨dk, hd1, hd2⟩ := hD
        have hKl := hP.bf.len
        refine ⟨d, dk, iv (keys Kp), rfl, .inl hd1, dict_keys hd2, by rw [List.length_map, List.length_map]; omega, fun ys p hperm _ hp' => ?_⟩
        obtain ⟨g, rfl, hgp⟩ := perm_iv hperm
        rw [iv_nv]
        have e4 : Same H3 (upd H3 p (.lst (nv g))) := Same.new hp'
        obtain ⟨c1, c2, c3, c4⟩ := Got.new hP G hgp
        have e5 := e3.trans e4
        have hx3 := e5 _ _ hx1
        have hS3 := e5 _ _ hS
        refine ⟨_, rfl, .inr (.inr (.inl ⟨rfl, .inl ⟨_, hS3⟩⟩)), _, rfl, p, rfl, ⟨_, SqL.of upd_same⟩, fun D hD => ?_⟩
        have hpD : p ≠ D := ne_of_none upd_same hD
        refine ⟨fun j m H6 => m = g.length - j ∧ j ≤ g.length ∧ Same (upd H3 p (.lst (nv g))) H6 ∧ ∃ more, H6 D = some (.dK more) ∧ more.length ≤ j ∧ KeysIn (fun u => u ∈ g) more, ⟨g.length, by omega, Nat.zero_le _, Same.new hD, [], upd_same, Nat.le_refl _, fun _ h => nomatch h⟩, ?_⟩
        rintro j m H6 ⟨rfl, hj, e6, more, hm1, hm2, hm3⟩
        have hp6 : H6 p = some (.lst (nv g)) := e6 _ _ upd_same
        by_cases hlt : j < g.length
        · refine .inr ⟨⟨_, V.int ((g[j] : Nat) : Int), SqL.of hp6, by rw [List.getElem?_map, List.getElem?_eq_getElem hlt]; rfl⟩, fun H7 => Same (upd H3 p (.lst (nv g))) H7 ∧ ∃ more, H7 D = some (.dK more) ∧ more.length ≤ j + 1 ∧ KeysIn (fun u => u ∈ g) more,
            fun H7 h => ⟨g.length - (j + 1), by omega, rfl, hlt, h.1, h.2⟩, fun x H7 y => ?_⟩
          obtain ⟨rfl, y⟩ := y
          have hx := y _ (SqL.of hp6)
          obtain ⟨q, hq, rfl⟩ := nv_get hx
          refine ⟨rfl, ?_⟩
          refine ⟨_, rfl, more, Sum.inl (q : Int), rfl, hm1, szl _ (by omega), Same.mut e6 hD, _, upd_same, Nat.le_trans (length_putK _ _ _) (by omega), hm3.put (List.mem_of_getElem? hq) _⟩
        · refine .inl ⟨⟨_, SqL.of hp6, by rw [List.length_map]; omega⟩, ?_⟩
          have hS6 := e6 _ _ (e4 _ _ (e3 _ _ hS))
          have hsD : sd ≠ D := fun z => by
            have := e5 _ _ hS
            rw [z, hD] at this
            cases this
          refine ⟨sd, D, kvs, more, rfl, rfl, hsD, hS6, hm1, sz _ (by omega), ?_⟩
          have hfl6 := e6 _ _ hx3
          have hfs6 : fl ≠ sd := hfs
          refine ⟨_, rfl, .inl ⟨rfl, _, SqL.of (by rw [upd_ne hfs6]; exact hfl6)⟩, _, rfl, fl, _, _, rfl, rfl, by rw [upd_ne hfs6]; exact hfl6, ?_, ?_⟩
          · rw [Paired.length hx2]; exact szl _ (by omega)
          have hpf : p ≠ fl := fun z => by
            have := e3 _ _ hx1
            rw [← z, hp'] at this
            cases this
          have hps : p ≠ sd := fun z => by
            have := e3 _ _ hS
            rw [← z, hp'] at this
            cases this
          have ee : Same H (upd (upd H6 sd (.dK (mergeK kvs more))) fl (.lst (xs ++ [.ref p]))) := Same.mut (Same.mut ((e.trans e5).trans e6) hsdn) hfl
          refine ⟨G ++ [g], mergeK kvs more, _, _, _, rfl, ee, ⟨_, upd_same, Paired.snoc ?_ ⟨⟨p, rfl, ?_⟩, fun z => hpf (V.ref.inj z)⟩⟩, by rw [upd_ne hfs.symm, upd_same], Nat.le_trans (length_mergeK more kvs) (by omega), ?_, fun v hvi => ?_, fun g' hg' => ?_, by rw [List.length_append]; exact Nat.succ_le_succ hGl⟩
          · refine Paired.mapP hx2 fun v x q => ?_
            obtain ⟨⟨b, rfl, hb⟩, hbf⟩ := q
            have hb2 := (e5.trans e6) _ _ hb.nats
            exact ⟨⟨b, rfl, ListAt.of_nats (by rw [upd_ne (fun z => hbf (by rw [z])), upd_ne (ne_of hb2 hS6 (by intro z; cases z))]; exact hb2)⟩, hbf⟩
          · exact ListAt.of_nats (by rw [upd_ne hpf, upd_ne hps]; exact hp6)
          · exact KeysIn.merge more (hk2.imp fun u hu => hu.mono g) (hm3.imp c1)
          · by_cases c : v = i
            · subst c; exact c1 v c2
            · exact (hv v (by omega)).mono g
          · rcases List.mem_append.mp hg' with h | h
            · exact hg g' h
            · rw [List.mem_singleton.mp h]; exact ⟨c3, c4⟩
    · rintro σ H2 ⟨G, kvs, u, v, z, rfl, e, hG, hS, hk1, hk2, hv, hg, hGl⟩
      exact ⟨_, rfl, k H2 fl G e hfl hG.at_ ⟨hg, hv, hGl⟩⟩
end
end Tt
end
section
set_option maxHeartbeats 4000000
namespace Tt
open PySem PySem.Spec PyProof.Rows L2
/-! ### a heap without one object -/
def Del (H : Hp) (x : Addr) : Hp := fun b => if b = x then none else H b
theorem Del.at_ {H : Hp} {x b : Addr} (h : b ≠ x) : Del H x b = H b := if_neg h
theorem Del.none (H : Hp) (x : Addr) : Del H x x = Option.none := if_pos rfl
theorem Del.same (H : Hp) (x : Addr) : Same (Del H x) H := fun b o e => by
  unfold Del at e
  split at e
  · cases e
  · exact e
theorem Del.back {H H' : Hp} {x b : Addr} {o : HO} (e : Same (Del H x) H') (h : H b = some o) (hb : b ≠ x) : H' b = some o := e b o (by rw [Del.at_ hb]; exact h)
/-- neither a list nor a tuple -/
def NoSeq (o : HO) : Prop := (∀ xs, o ≠ .lst xs) ∧ ∀ xs, o ≠ .tup xs
theorem noSeq_ins {C dx : Addr} {fs : List (Str × V)} : NoSeq (.ins C dx fs) := ⟨(fun _ z => nomatch z), fun _ z => nomatch z⟩
theorem noSeq_dK {kvs : List (Key × V)} : NoSeq (.dK kvs) := ⟨(fun _ z => nomatch z), fun _ z => nomatch z⟩
def Kd {α : Type} (R : Rel α) : Prop := ∀ (H : Hp) (x : Addr) (o : HO) (v : V) (y : α), H x = some o → NoSeq o → R H v y → R (Del H x) v y
theorem TupAt.del {H : Hp} {x : Addr} {o : HO} {v : V} {ys : List V} (hx : H x = some o) (n : NoSeq o) (h : TupAt H v ys) : TupAt (Del H x) v ys := by
  obtain ⟨t, rfl, h⟩ := h
  exact ⟨t, rfl, by rw [Del.at_ (ne_of h hx fun z => n.2 _ z.symm)]; exact h⟩
theorem k_Int : Kd IntR := fun _ _ _ _ _ _ _ h => h
theorem k_Nat : Kd NatR := fun _ _ _ _ _ _ _ h => h
theorem k_Pair : Kd PairR := fun _ _ _ _ _ hx n h => TupAt.del hx n h
theorem k_Row : Kd RowR := fun _ _ _ _ _ hx n h => TupAt.del hx n h
theorem k_Step : Kd StepR := fun _ _ _ _ _ hx n h => TupAt.del hx n h
theorem k_Link : Kd LinkR := fun _ _ _ _ _ hx n h => TupAt.del hx n h
theorem ListAt.del {α : Type} {R : Rel α} (kd : Kd R) {H : Hp} {x a : Addr} {o : HO} {l : List α} (hx : H x = some o) (n : NoSeq o) (h : ListAt R H a l) : ListAt R (Del H x) a l := by
  obtain ⟨xs, h1, h2⟩ := h
  exact ⟨xs, by rw [Del.at_ (ne_of h1 hx fun z => n.1 _ z.symm)]; exact h1, Paired.mapP h2 fun v y q => kd H x o v y hx n q⟩
theorem k_Lst {α : Type} {R : Rel α} (kd : Kd R) : Kd (LstR R) := fun _ _ _ _ _ hx n ⟨a, e, h⟩ => ⟨a, e, h.del kd hx n⟩
theorem LinksAt.del {H : Hp} {x p : Addr} {o : HO} {Ls : List (List Lk)} (hx : H x = some o) (n : NoSeq o) (h : LinksAt H p Ls) : LinksAt (Del H x) p Ls := by
  obtain ⟨as, h1, h2⟩ := h
  refine ⟨as, by rw [Del.at_ (ne_of h1 hx fun z => n.1 _ z.symm)]; exact h1, h2.len, h2.nd, fun u a l e1 e2 => ?_⟩
  obtain ⟨xs, h3, h4⟩ := h2.at_ u a l e1 e2
  exact ⟨xs, by rw [Del.at_ (ne_of h3 hx fun z => n.1 _ z.symm)]; exact h3, Paired.mapP h4 fun v y q => k_Link H x o v y hx n q⟩
/-! ### the system in the heap -/
def sfs (m : Int) (ra la ga : Addr) : List (Str × V) := [("own_modulus", .int m), ("rows", .ref ra), ("links", .ref la), ("groups", .ref ga)]
structure SysF (C : Addr) (n : Nat) (m : Int) (rows : List Rw) (F : List Nat) (H : Hp) (x dx ra la ga : Addr) (Ls : List (List Lk)) (G : List (List Nat)) : Prop where
  at_ : H x = some (.ins C dx (sfs m ra la ga))
  ra : ListAt RowR H ra rows
  la : LinksAt H la Ls
  lo : LinksOk n (psOf rows) F Ls
  ga : ListAt (LstR NatR) H ga G
  co : CompOk n (psOf rows) F G
def SysAt (C : Addr) (n : Nat) (m : Int) (rows : List Rw) (F : List Nat) (H : Hp) (x : Addr) : Prop := ∃ dx ra la ga Ls G, SysF C n m rows F H x dx ra la ga Ls G
theorem SysF.same {C : Addr} {n : Nat} {m : Int} {rows : List Rw} {F : List Nat} {H H' : Hp} {x dx ra la ga : Addr} {Ls : List (List Lk)} {G : List (List Nat)} (h : SysF C n m rows F H x dx ra la ga Ls G) (e : Same H H') : SysF C n m rows F H' x dx ra la ga Ls G :=
  ⟨e _ _ h.at_, h.ra.same m_Row e, h.la.same e, h.lo, h.ga.same (m_Lst m_Nat) e, h.co⟩
theorem SysAt.same {C : Addr} {n : Nat} {m : Int} {rows : List Rw} {F : List Nat} {H H' : Hp} {x : Addr} (h : SysAt C n m rows F H x) (e : Same H H') : SysAt C n m rows F H' x := by
  obtain ⟨dx, ra, la, ga, Ls, G, h⟩ := h
  exact ⟨dx, ra, la, ga, Ls, G, h.same e⟩
/-- what holds of a system's numbers -/
structure SysN (n : Nat) (m : Int) (rows : List Rw) (F : List Nat) : Prop where
  ed : EdOk n (psOf rows)
  n30 : n ≤ 30
  rl : rows.length ≤ 1000
  mo : ModOk m
  fo : ForestOk (psOf rows) F
  fl : F.length ≤ 1000
theorem Wk.step {ps : Es} {F : List Nat} {s v : Nat} {P : Pt} (h : Wk ps F s P v) : ∀ x ∈ P, x.1 ∈ F ∧ (x.2 = 1 ∨ x.2 = -1) := by
  induction h with
  | nil => exact fun _ h => nomatch h
  | snoc _ hi st ih =>
    intro x hx
    rcases List.mem_append.mp hx with h | h
    · exact ih x h
    · rw [List.mem_singleton.mp h]
      exact ⟨hi, st.imp (·.1) (·.1)⟩
section
variable {P : Program} {w : World} {K : PySem.W.Frag} {mg : Str → Option Value} {base : Heap}
def sp_System_init (C : Addr) : Sp := fun vs H Q _ => ∃ (x dx ra : Addr) (n : Nat) (m : Int) (rows : List Rw), vs = [.ref x, .int n, .int m, .ref ra] ∧ H x = some (.ins C dx []) ∧ ListAt RowR H ra rows ∧ EdOk n (psOf rows) ∧ n ≤ 30 ∧ rows.length ≤ 1000 ∧ ModOk m ∧
  ∀ H' F, (∀ b o, H b = some o → b ≠ x → H' b = some o) → SysAt C n m rows F H' x → SysN n m rows F → Q .non H'
theorem ok_System_init (T : Tx K mg) : FnOk P w K mg base CX0 3 T.System_init.f T.System_init.fd N_System_init_ps (sp_System_init T.System) := by
  have G_components_of := ok_components_of (P := P) (w := w) (base := base) T
  have G_forest_of := ok_forest_of (P := P) (w := w) (base := base) T
  have G_links_of := ok_links_of (P := P) (w := w) (base := base) T
  refine T.System_init.F.ok sc_System_init (fun vs H Q E h => ?_) (fun cdv A outer s H vs Q E hr h => ?_)
  · obtain ⟨x, dx, ra, n, m, rows, rfl, hx, hra, hp, hn, hl, hm, k⟩ := h
    rfl
  · obtain ⟨x, dx, ra, n, m, rows, rfl, hx, hra, hp, hn, hl, hm, k⟩ := h
    have hu := hu_of hr
    refine ⟨_, PSs.nox (pss_cons (ps_fld (pv 0) (pv 2) rfl)
      (pss_cons (ps_fld (pv 0) (pv 3) rfl)
      (pss_cons (ps_setLc (i := 4) (own := [("tail", 5), ("head", 6), ("difference", 7)]) (tt := tYes) rfl sc_System_init.nd rfl rfl (sw_true rfl rfl rfl (by decide +kernel)) (pi_list (pv 3)) (blkOk_by (N := N_System_init) (sc := defScope (inClass (top 21) 0)) (by decide +kernel)) (fun _ _ _ _ _ => (pg_tupB (K := K) (n := 3) rfl rfl (pgs_cons (pg_name (i := 5) sc_System_init.nd rfl (by first | exact Or.inl rfl | exact Or.inr rfl)) (pgs_cons (pg_name (i := 6) sc_System_init.nd rfl (by first | exact Or.inl rfl | exact Or.inr rfl)) (pgs_cons (pg_name (i := 7) sc_System_init.nd rfl (by first | exact Or.inl rfl | exact Or.inr rfl)) pgs_nil))))) (fun _ _ _ _ _ => pts_nil) (fun _ _ _ _ _ => (pe_tup (pa_cons (pv 5) (pa_cons (pv 6) pa_nil)))))
      (pss_cons (ps_fld (pv 0) (pe_call G_links_of (hr.mono (by decide)) rfl T.links_of.m T.links_of.F.kp T.links_of.b .nil pass0 (pa_cons (pv 1) (pa_cons (pv 4) (pa_cons (pe_call G_forest_of (hr.mono (by decide)) rfl T.forest_of.m T.forest_of.F.kp T.forest_of.b .nil pass0 (pa_cons (pv 1) (pa_cons (pv 4) pa_nil))) pa_nil)))) rfl)
      (pss_one (ps_fld (pv 0) (pe_call G_components_of (hr.mono (by decide)) rfl T.components_of.m T.components_of.F.kp T.components_of.b .nil pass0 (pa_cons (pe_fld (pv 0) rfl) pa_nil)) rfl)))))), ?_⟩
    have hD := hra.del k_Row hx noSeq_ins
    have e0 : Same (Del H x) (upd H x (.ins T.System dx [("own_modulus", .int m), ("rows", .ref ra)])) := Same.mut (Del.same H x) (Del.none H x)
    refine ⟨_, rfl, _, rfl, x, _, dx, _, rfl, hx, T.cl_System, T.na_System_own_modulus, by decide, ?_⟩
    refine ⟨_, rfl, _, rfl, x, _, dx, _, rfl, upd_same, T.cl_System, T.na_System_rows, by show 1 < 1000; decide, ?_⟩
    rw [upd_upd]
    show _
    have hx2 : upd H x (.ins T.System dx [("own_modulus", .int m), ("rows", .ref ra)]) x = some (.ins T.System dx [("own_modulus", .int m), ("rows", .ref ra)]) := upd_same
    have hr2 := hD.same m_Row e0
    obtain ⟨xs, h1, h2⟩ := id hr2
    have hxl := Paired.length h2
    refine ⟨_, rfl, ra, rfl, ⟨_, SqL.of h1⟩, fun p hp' => ?_⟩
    refine lc_list (K := K) (a := ra) (xs := xs) (fun j H3 => Same (upd H x (.ins T.System dx [("own_modulus", .int m), ("rows", .ref ra)])) H3 ∧ ListAt PairR H3 p ((psOf rows).take j)) ⟨Same.new hp', [], upd_same, .nil⟩ (fun j H3 _ ⟨e, _⟩ => SqL.of (e _ _ h1)) ?_ ?_
    · rintro j y H3 hj ⟨e3, zs, hz1, hz2⟩
      obtain ⟨⟨t, h, d⟩, hr, t2, rfl, ht2⟩ := Paired.at2 h2 hj
      have hps : (psOf rows)[j]? = some (t, h) := psOf_at.mpr ⟨d, hr⟩
      have hjl := (List.getElem?_eq_some_iff.mp hr).1
      refine ⟨t2, _, rfl, SqT.of (e3 _ _ ht2), rfl, _, _, rfl, _, _, rfl, _, _, rfl, rfl, rfl, ?_⟩
      refine ⟨_, rfl, _, rfl, (by show 2 ≤ sizeLine; decide), fun q hq => ?_⟩
      have n1 : Same H3 (upd H3 q (.tup [.int (t : Nat), .int (h : Nat)])) := Same.new hq
      have hz3 := n1 _ _ hz1
      refine ⟨_, hz3, ?_, Same.mut (e3.trans n1) hp', _, upd_same, ?_⟩
      · rw [Paired.length hz2, List.length_take]; exact szl _ (by omega)
      · rw [tk_snoc hps]
        have st : ∀ v y, PairR H3 v y → PairR (upd (upd H3 q (.tup [.int (t : Nat), .int (h : Nat)])) p (.lst (zs ++ [.ref q]))) v y := fun v y ⟨t', r1, r2⟩ => by
          have r3 := n1 _ _ r2
          exact ⟨t', r1, by rw [upd_ne (ne_of r3 hz3 (by intro z; cases z))]; exact r3⟩
        exact Paired.snoc (Paired.mapP hz2 st) ⟨q, rfl, by rw [upd_ne (ne_of (o := .tup [.int (t : Nat), .int (h : Nat)]) upd_same hz3 (by intro z; cases z)), upd_same]⟩
    · rintro H3 ⟨e3, hP⟩
      rw [hxl, List.take_of_length_le (by rw [List.length_map]; exact Nat.le_refl _)] at hP
      have hx3 := e3 _ _ hx2
      refine ⟨_, rfl, _, rfl, _, rfl, _, rfl, n, p, psOf rows, rfl, hP, hp, hn, by rw [List.length_map]; exact hl, fun H4 fa F e4 _ hfa FO flen => ?_⟩
      rw [List.length_map] at flen
      refine ⟨n, p, fa, psOf rows, F, rfl, hP.same m_Pair e4, hp, hn, hfa, FO.lt, by omega, fun H5 la Ls e5 _ hla LO => ?_⟩
      have hx5 := e5 _ _ (e4 _ _ hx3)
      have e05 := e0.trans ((e3.trans e4).trans e5)
      refine ⟨_, rfl, x, _, dx, _, rfl, hx5, T.cl_System, T.na_System_links, by show 2 < 1000; decide, ?_⟩
      have hla5 := hla.del hx5 noSeq_ins
      have e6 : Same (Del H5 x) (upd H5 x (.ins T.System dx (putF "links" (.ref la) [("own_modulus", .int m), ("rows", .ref ra)]))) := Same.mut (Del.same H5 x) (Del.none H5 x)
      have e06 : Same (Del H x) (upd H5 x (.ins T.System dx (putF "links" (.ref la) [("own_modulus", .int m), ("rows", .ref ra)]))) := Same.mut e05 (Del.none H x)
      refine ⟨_, rfl, x, _, dx, _, _, rfl, upd_same, T.cl_System, T.na_System_links, rfl, la, n, psOf rows, F, Ls, rfl, hla5.same e6, LO, hp, hn, by omega, fun H7 ga G e7 _ hga CO => ?_⟩
      have hx7 := e7 _ _ (upd_same (H := H5) (a := x))
      refine ⟨_, rfl, x, _, dx, _, rfl, hx7, T.cl_System, T.na_System_groups, by show 3 < 1000; decide, ?_⟩
      have e08 := Same.mut (o := .ins T.System dx (putF "groups" (.ref ga) (putF "links" (.ref la) [("own_modulus", .int m), ("rows", .ref ra)]))) (e06.trans e7) (Del.none H x)
      have e58 := Same.mut (o := .ins T.System dx (putF "groups" (.ref ga) (putF "links" (.ref la) [("own_modulus", .int m), ("rows", .ref ra)]))) (e6.trans e7) (Del.none H5 x)
      have hg7 := hga.del (k_Lst k_Nat) hx7 noSeq_ins
      have e78 : Same (Del H7 x) _ := Same.mut (o := .ins T.System dx (putF "groups" (.ref ga) (putF "links" (.ref la) [("own_modulus", .int m), ("rows", .ref ra)]))) (Del.same H7 x) (Del.none H7 x)
      exact k _ F (fun b o hb hbx => Del.back e08 hb hbx) ⟨dx, ra, la, ga, Ls, G, upd_same, hD.same m_Row e08, hla5.same e58, LO, hg7.same (m_Lst m_Nat) e78, CO⟩ ⟨hp, hn, hl, hm, FO, by omega⟩
def sp_System_path (C : Addr) : Sp := fun vs H Q _ => ∃ (x : Addr) (s f n : Nat) (m : Int) (rows : List Rw) (F : List Nat), vs = [.ref x, .int s, .int f] ∧ SysAt C n m rows F H x ∧ SysN n m rows F ∧ s < n ∧ Cn (psOf rows) F s f ∧
  ∀ H' a P, Same H H' → ListAt StepR H' a P → Wk (psOf rows) F s P f → P.length ≤ 30 → Q (.ref a) H'
theorem ok_System_path (T : Tx K mg) : FnOk P w K mg base CX0 2 T.System_path.f T.System_path.fd N_System_path_ps (sp_System_path T.System) := by
  have G_walk_paths := ok_walk_paths (P := P) (w := w) (base := base) T
  refine T.System_path.F.ok sc_System_path (fun vs H Q E h => ?_) (fun cdv A outer s H vs Q E hr h => ?_)
  · obtain ⟨x, s0, f, n, m, rows, F, rfl, hS, hN, hs, hc, k⟩ := h
    rfl
  · obtain ⟨x, s0, f, n, m, rows, F, rfl, hS, hN, hs, hc, k⟩ := h
    have hu := hu_of hr
    refine ⟨_, PSs.nox (pss_one (ps_ret (pe_dget hu (pe_call G_walk_paths (hr.mono (by decide)) rfl T.walk_paths.m T.walk_paths.F.kp T.walk_paths.b .nil pass0 (pa_cons (pe_fld (pv 0) rfl) (pa_cons (pv 1) pa_nil))) (pv 2) (fun _ _ => rfl)))), ?_⟩
    obtain ⟨dx, ra, la, ga, Ls, G, S⟩ := id hS
    refine ⟨_, rfl, x, _, dx, _, _, rfl, S.at_, T.cl_System, T.na_System_links, rfl, _, rfl, la, s0, n, psOf rows, F, Ls, rfl, S.la, S.lo, hN.ed, hN.n30, hN.fl, hs, fun H' d Kp e hd hD hP => ?_⟩
    obtain ⟨kvs, h1, h2⟩ := hD
    rcases dict_find f h2 with ⟨_, c⟩ | ⟨v, PP, c1, c2, a, rfl, c3⟩
    · exact absurd (hP.cl f hc) c
    · obtain ⟨w1, w2, w3⟩ := hP.bf.ok _ c2
      have := hP.bf.len
      have := hN.n30
      exact ⟨_, rfl, d, _, rfl, by have z := DGet.k (k := Sum.inl (f : Int)) h1; rw [c1] at z; exact z, k H' a PP e c3 w2 (by dsimp only at w3; omega)⟩
end
end Tt
end
section
set_option maxHeartbeats 4000000
namespace Tt
open PySem PySem.Spec PyProof.Rows L2
section
variable {P : Program} {w : World} {K : PySem.W.Frag} {mg : Str → Option Value} {base : Heap}
def sp_System_levels (C : Addr) : Sp := fun vs H Q _ => ∃ (x : Addr) (n : Nat) (m : Int) (rows : List Rw) (F : List Nat), vs = [.ref x] ∧ SysAt C n m rows F H x ∧ SysN n m rows F ∧
  ∀ H' a f, Same H H' → H a = none → H' a = some (.lst (f.map V.int)) → LevOk m n rows F f → Q (.ref a) H'
theorem ok_System_levels (T : Tx K mg) : FnOk P w K mg base CX0 2 T.System_levels.f T.System_levels.fd N_System_levels_ps (sp_System_levels T.System) := by
  have G_reduced_number := ok_reduced_number (P := P) (w := w) (base := base) T
  have G_walk_paths := ok_walk_paths (P := P) (w := w) (base := base) T
  refine T.System_levels.F.ok sc_System_levels (fun vs H Q E h => ?_) (fun cdv A outer s H vs Q E hr h => ?_)
  · obtain ⟨x, n, m, rows, F, rfl, hS, hN, k⟩ := h
    rfl
  · obtain ⟨x, n, m, rows, F, rfl, hS, hN, k⟩ := h
    have hu := hu_of hr
    refine ⟨_, PSs.nox (pss_cons (ps_setLc (i := 1) (own := [("node", 2)]) (g := gName 2) (tt := tYes) rfl sc_System_levels.nd rfl rfl (sw_true rfl rfl rfl (by decide +kernel)) (pi_list (pe_fld (pv 0) rfl)) (blkOk_by (N := N_System_levels) (sc := defScope (inClass (top 21) 2)) (by decide +kernel)) (fun _ _ _ _ _ => (pg_name (i := 2) sc_System_levels.nd rfl (by first | exact Or.inl rfl | exact Or.inr rfl))) (fun _ _ _ _ _ => pts_nil) (fun _ _ _ _ _ => pe_int))
      (pss_cons (ps_for PassesOwn.never rfl (pi_list (pe_fld (pv 0) rfl)) (pg_name (i := 3) sc_System_levels.nd rfl (by first | exact Or.inl rfl | exact Or.inr rfl))
        (pss_one (ps_for PassesOwn.never rfl (pi_items (pe_frz (pe_call G_walk_paths (hr.mono (by decide)) rfl T.walk_paths.m T.walk_paths.F.kp T.walk_paths.b .nil pass0 (pa_cons (pe_fld (pv 0) rfl) (pa_cons (pe_ix ix_list (pv 3) pe_int (fun _ _ => rfl)) pa_nil))))) (pg_tup rfl (pgs_cons (pg_name (i := 2) sc_System_levels.nd rfl (by first | exact Or.inl rfl | exact Or.inr rfl)) (pgs_cons (pg_name (i := 4) sc_System_levels.nd rfl (by first | exact Or.inl rfl | exact Or.inr rfl)) pgs_nil)))
          (pss_cons (ps_set (i := 5) sc_System_levels.nd rfl (by first | exact Or.inl rfl | exact Or.inr rfl) (pe_callB (cr_sum rfl) (by rfl) T.n_sum (by decide +kernel) (pa_cons (pe_lc (own := [("index", 6), ("way", 7)]) (tt := tYes) rfl sc_System_levels.nd (pi_list (pv 4)) (blkOk_by (N := N_System_levels) (sc := defScope (inClass (top 21) 2)) (by decide +kernel)) (fun _ _ _ _ _ => (pg_tupB (K := K) (n := 2) rfl rfl (pgs_cons (pg_name (i := 6) sc_System_levels.nd rfl (by first | exact Or.inl rfl | exact Or.inr rfl)) (pgs_cons (pg_name (i := 7) sc_System_levels.nd rfl (by first | exact Or.inl rfl | exact Or.inr rfl)) pgs_nil)))) (fun _ _ _ _ _ => pts_nil) (fun _ _ _ _ _ => (pe_op op_mul (pv 7) (pe_ix (ix_tupB (K := K) rfl) (pe_ix (ix_listB (K := K) rfl) (pe_fldB (K := K) rfl (pv 0) rfl) (pv 6) (fun _ _ => rfl)) pe_int (fun _ _ => rfl))))) pa_nil)))
          (pss_one (ps_asg (pe_call G_reduced_number (hr.mono (by decide)) rfl T.reduced_number.m T.reduced_number.F.kp T.reduced_number.b .nil pass0 (pa_cons (pe_op op_sub pe_int (pv 5)) (pa_cons (pe_fld (pv 0) rfl) pa_nil))) (pg_sub (pv 1) (pv 2) set_list)))))))
      (pss_one (ps_ret (pv 1))))), ?_⟩
    obtain ⟨dx, ra, la, ga, Ls, G, S⟩ := id hS
    obtain ⟨as, hla, hA⟩ := id S.la
    have hasn : as.length = n := by rw [hA.len, S.lo.len]
    have hn30 := hN.n30
    obtain ⟨q, hq⟩ := levels_q m hN.fo
    refine ⟨_, rfl, x, _, dx, _, _, rfl, S.at_, T.cl_System, T.na_System_links, rfl, la, rfl, ⟨_, SqL.of hla⟩, fun fl hfl => ?_⟩
    refine lc_list (K := K) (a := la) (xs := as.map V.ref) (fun j H1 => Same H H1 ∧ H1 fl = some (.lst ((List.replicate j (0 : Int)).map V.int))) ⟨Same.new hfl, upd_same⟩ (fun j H1 _ ⟨e, _⟩ => SqL.of (e _ _ hla)) ?_ ?_
    · rintro j y H1 hj ⟨e1, h1⟩
      have hjl := (List.getElem?_eq_some_iff.mp hj).1
      rw [List.length_map] at hjl
      refine ⟨rfl, ?_⟩
      refine ⟨_, h1, by rw [List.length_map, List.length_replicate]; exact szl _ (by omega), Same.mut e1 hfl, ?_⟩
      rw [upd_same, List.replicate_succ', List.map_append]
      rfl
    rintro H1 ⟨e1, h1⟩
    rw [List.length_map, hasn] at h1
    obtain ⟨gs, hg1, hg2⟩ := id S.ga
    have hgl := Paired.length hg2
    refine ⟨_, rfl, x, _, dx, _, _, rfl, e1 _ _ S.at_, T.cl_System, T.na_System_groups, rfl, ga, rfl, ⟨_, SqL.of (e1 _ _ hg1)⟩, for_list (K := K) (a := ga) (xs := gs) (fun i σ H2 => ∃ (f : List Int) (u v z y b c : Option V), σ = [some (.ref x), some (.ref fl), u, v, z, y, b, c] ∧ Same H H2 ∧ H2 fl = some (.lst (f.map V.int)) ∧ LI m n rows F q G i f)
      ⟨_, none, none, none, none, none, none, rfl, e1, h1, LI.start⟩ (fun i σ H2 _ ⟨_, _, _, _, _, _, _, _, e, _⟩ => SqL.of (e _ _ hg1)) ?_ ?_⟩
    · rintro i y0 σ H2 hi ⟨f0, u, v, z, y, b, c, rfl, e2, h2, I⟩
      obtain ⟨g, hgi, g0, rfl, hg0⟩ := Paired.at2 hg2 hi
      obtain ⟨⟨r, rest, rfl, hr⟩, _⟩ := S.co.hd g (List.mem_of_getElem? hgi)
      have hg3 := e2 _ _ hg0.nats
      refine ⟨_, rfl, x, _, dx, _, _, rfl, e2 _ _ S.at_, T.cl_System, T.na_System_links, rfl, _, rfl, g0, _, _, _, rfl, rfl, SqL.of hg3, atI_nat (j := 0) rfl, la, r, n, psOf rows, F, Ls, rfl, S.la.same e2, S.lo, hN.ed, hN.n30, hN.fl, hr, fun H3 d Kp e3 hd hD hP => ?_⟩
      obtain ⟨kvs, hd1, hd2⟩ := hD
      refine ⟨d, _, rfl, hd1, trivial, fun od => ?_⟩
      have hKl := hP.bf.len
      have hkl := Paired.length hd2
      have e3d : Same (Del H3 d) (upd H3 d (.frz od (.dK kvs))) := Same.mut (Del.same H3 d) (Del.none H3 d)
      have e4 : Same H2 (upd H3 d (.frz od (.dK kvs))) := Same.mut e3 hd
      have hfd : fl ≠ d := ne_of_none h2 hd
      have hkv : Paired (fun kv x => kv.1 = Sum.inl (x.1 : Int) ∧ LstR StepR (upd H3 d (.frz od (.dK kvs))) kv.2 x.2) kvs Kp := Paired.mapP hd2 fun kv x h => ⟨h.1, m_Lst m_Step _ _ _ _ e3d (k_Lst k_Step _ _ _ _ _ hd1 noSeq_dK h.2)⟩
      have hfz : upd H3 d (.frz od (.dK kvs)) d = some (.frz od (.dK kvs)) := upd_same
      generalize upd H3 d (.frz od (.dK kvs)) = H4 at e4 hkv hfz
      have h4 := e4 _ _ h2
      have hkf : Paired (fun kv x => kv.1 = Sum.inl (x.1 : Int) ∧ LstR StepR (Del H4 fl) kv.2 x.2) kvs Kp := Paired.mapP hkv fun kv x ⟨c1, a', c2, ys, c3, c4⟩ => by
        have ne : a' ≠ fl := fun z => by
          rw [z, h4] at c3
          have c3 := (HO.lst.inj (Option.some.inj c3)).symm
          have hlen : f0.length = n := I.len
          cases f0 with
          | nil => rw [List.length_nil] at hlen; omega
          | cons z0 r0 =>
            rw [c3] at c4
            obtain ⟨_, _, t, z, _⟩ := Paired.at2 (i := 0) c4 rfl
            cases z
        exact ⟨c1, a', c2, ys, by rw [Del.at_ ne]; exact c3, Paired.mapP c4 fun v y ⟨t, c5, c6⟩ => ⟨t, c5, by rw [Del.at_ (ne_of c6 h4 fun z => nomatch z)]; exact c6⟩⟩
      have hfzf : Del H4 fl d = some (.frz od (.dK kvs)) := by rw [Del.at_ hfd.symm]; exact hfz
      refine ⟨d, od, kvs, rfl, hfz, for_it walk_items (fun j σ H5 => ∃ (f : List Int) (u z y b c : Option V), σ = [some (.ref x), some (.ref fl), u, some (.ref g0), z, y, b, c] ∧ Same H H5 ∧ Same (Del H4 fl) H5 ∧ H5 fl = some (.lst (f.map V.int)) ∧ LJ m n q r Kp f0 j f)
        ⟨f0, _, _, _, _, _, rfl, e2.trans e4, Del.same H4 fl, h4, LJ.start I.len I.res⟩ (fun j σ H5 _ ⟨_, _, _, _, _, _, _, _, e, _⟩ => e _ _ hfzf) ?_ ?_⟩
      · rintro j x1 σ H5 H6 hj ⟨f, u, z, y, b, c, rfl, e5, e5f, h5, J⟩ ⟨T0, p1, p2, rfl, hT0, rfl, hp1, hp2⟩
        obtain ⟨kv, hkvj⟩ : ∃ kv, kvs[j]? = some kv := ⟨_, List.getElem?_eq_getElem hj⟩
        have hp1 : kvs[j]?.map (fun kv => kV kv.1) = some p1 := hp1
        have hp2 : kvs[j]?.map Prod.snd = some p2 := hp2
        rw [hkvj] at hp1 hp2
        obtain ⟨⟨v, PP⟩, hKj, c1, a', c2, ys, c3, c4⟩ := Paired.at2 hkf hkvj
        have c1 : kv.1 = Sum.inl (v : Int) := c1
        have ep1 : p1 = V.int (v : Int) := by
          rw [← Option.some.inj hp1]
          show kV kv.1 = _
          rw [c1]
          rfl
        have ep2 : p2 = .ref a' := (Option.some.inj hp2).symm.trans c2
        subst ep1 ep2
        obtain ⟨hvn, hW, hPl⟩ := hP.bf.ok _ (List.mem_of_getElem? hKj)
        have hst := Wk.step hW
        have n1 : Same H5 (upd H5 T0 (.tup [.int (v : Int), .ref a'])) := Same.new hT0
        have e6 := e5.trans n1
        have e6f := e5f.trans n1
        have h6 := n1 _ _ h5
        refine ⟨T0, _, rfl, SqT.of upd_same, rfl, _, _, rfl, _, _, rfl, rfl, ?_⟩
        generalize upd H5 T0 (.tup [.int (v : Int), .ref a']) = H6 at e6 e6f h6
        obtain ⟨rs, hr1, hr2⟩ := id (S.ra.same m_Row e6)
        have hy6 := e6f _ _ c3
        have hyl := Paired.length c4
        refine ⟨_, rfl, a', rfl, ⟨_, SqL.of hy6⟩, fun D hD => ?_⟩
        refine lc_list (K := K) (a := a') (xs := ys) (fun t H7 => Same H6 H7 ∧ H7 D = some (.lst (((PP.take t).map fun x => x.2 * dOf rows x.1).map V.int))) ⟨Same.new hD, upd_same⟩ (fun t H7 _ ⟨e, _⟩ => SqL.of (e _ _ hy6)) ?_ ?_
        · rintro t y1 H7 ht ⟨e7, h7⟩
          obtain ⟨⟨i1, w1⟩, hPt, t2, rfl, ht2⟩ := Paired.at2 c4 ht
          obtain ⟨hi1, hw1⟩ := hst _ (List.mem_of_getElem? hPt)
          have hil := hN.fo.lt i1 hi1
          rw [List.length_map] at hil
          obtain ⟨⟨ta, hb, dd⟩, hrow⟩ : ∃ rw, rows[i1]? = some rw := ⟨_, List.getElem?_eq_getElem hil⟩
          obtain ⟨_, hrv, t3, rfl, ht3⟩ := Paired.at_ hr2 hrow
          have htl := (List.getElem?_eq_some_iff.mp hPt).1
          refine ⟨t2, _, rfl, SqT.of (e7 _ _ (e6f _ _ ht2)), rfl, _, _, rfl, _, _, rfl, rfl, rfl, ?_⟩
          refine ⟨_, rfl, _, rfl, x, _, dx, _, _, rfl, e7 _ _ (e6 _ _ S.at_), T.cl_System, T.na_System_rows, rfl, _, rfl, ra, _, _, _, rfl, rfl, SqL.of (e7 _ _ hr1), atI_nat hrv, t3, _, _, _, rfl, rfl, SqT.of (e7 _ _ ht3), atI_nat (j := 2) rfl, _, _, rfl, rfl, ?_, ?_⟩
          · left
            rcases hw1 with h | h
            · have h : w1 = 1 := h
              subst h
              exact ⟨by show -(2 ^ 64) < (1 : Int); decide, by show (1 : Int) < 2 ^ 64; decide⟩
            · have h : w1 = -1 := h
              subst h
              exact ⟨by show -(2 ^ 64) < (-1 : Int); decide, by show (-1 : Int) < 2 ^ 64; decide⟩
          refine ⟨_, h7, ?_, Same.mut e7 hD, ?_⟩
          · rw [List.length_map, List.length_map, List.length_take]
            exact szl _ (by dsimp only at hPl; omega)
          · rw [upd_same, tk_snoc hPt, List.map_append, List.map_append]
            show some (HO.lst (_ ++ [V.int (w1 * dd)])) = some (HO.lst (_ ++ [V.int (w1 * dOf rows i1)]))
            rw [dOf_at hrow]
        rintro H7 ⟨e7, h7⟩
        rw [hyl, List.take_length] at h7
        refine ⟨D, _, rfl, SqL.of h7, ?_⟩
        have hfl7 := e7 _ _ h6
        refine ⟨_, rfl, _, _, rfl, rfl, _, rfl, x, _, dx, _, _, rfl, e7 _ _ (e6 _ _ S.at_), T.cl_System, T.na_System_own_modulus, rfl, _, m, rfl, _, rfl, _, rfl, fl, _, _, v, rfl, rfl, hfl7, ?_, ?_⟩
        · rw [List.length_map, J.len]
          exact ixN_nat hvn
        · have et : (0 : Int) - (PP.map fun x => x.2 * dOf rows x.1).sum = 0 - total (dOf rows) PP := rfl
          rw [et, ints_set]
          exact ⟨_, _, _, _, _, _, rfl, Same.mut (e6.trans e7) hfl, Same.mut (e6f.trans e7) (Del.none H4 fl), upd_same, J.step hP hq hKj⟩
      · rintro σ H5 ⟨f, u, z, y, b, c, rfl, e5, e5f, h5, J⟩
        rw [hkl] at J
        exact ⟨f, _, _, _, _, _, _, rfl, e5, h5, I.step hgi hP J⟩
    · rintro σ H2 ⟨f, u, v, z, y, b, c, rfl, e2, h2, I⟩
      rw [hgl] at I
      exact ⟨_, rfl, k H2 fl f e2 hfl h2 (I.done S.co hN.ed hq)⟩
end
end Tt
end
section
set_option maxHeartbeats 4000000
namespace Tt
open PySem PySem.Spec PyProof.Rows L2
section
variable {P : Program} {w : World} {K : PySem.W.Frag} {mg : Str → Option Value} {base : Heap}
theorem ints_at2 {f : List Int} {v : Nat} {x : Int} (h : f[v]? = some x) : atI (f.map V.int) (v : Int) = some (.int x) := atI_nat (by rw [List.getElem?_map, h]; rfl)
def sp_System_bad_cycle (C : Addr) : Sp := fun vs H Q _ => ∃ (x : Addr) (n : Nat) (m : Int) (rows : List Rw) (F : List Nat), vs = [.ref x] ∧ SysAt C n m rows F H x ∧ SysN n m rows F ∧
  (∀ H', Same H H' → (∃ q, Sol m rows q) → Q .non H') ∧ ∀ H' a W, Same H H' → ListAt StepR H' a W → Excl m rows W → (∀ s ∈ W, s.1 < rows.length) → W.length ≤ 31 → Q (.ref a) H'
theorem ok_System_bad_cycle (T : Tx K mg) : FnOk P w K mg base CX0 3 T.System_bad_cycle.f T.System_bad_cycle.fd N_System_bad_cycle_ps (sp_System_bad_cycle T.System) := by
  have G_System_levels := ok_System_levels (P := P) (w := w) (base := base) T
  have G_System_path := ok_System_path (P := P) (w := w) (base := base) T
  have G_reduced_number := ok_reduced_number (P := P) (w := w) (base := base) T
  refine T.System_bad_cycle.F.ok sc_System_bad_cycle (fun vs H Q E h => ?_) (fun cdv A outer s H vs Q E hr h => ?_)
  · obtain ⟨x, n, m, rows, F, rfl, hS, hN, k1, k2⟩ := h
    rfl
  · obtain ⟨x, n, m, rows, F, rfl, hS, hN, k1, k2⟩ := h
    have hu := hu_of hr
    refine ⟨_, PSs.nox (pss_cons (ps_set (i := 1) sc_System_bad_cycle.nd rfl (by first | exact Or.inl rfl | exact Or.inr rfl) (pe_meth0 (pv 0) T.cl_System T.System_levels.m G_System_levels (hr.mono (by decide)) T.System_levels.b .nil pass0))
      (pss_cons (ps_for PassesOwn.never rfl (pi_enum (by rfl) T.n_enumerate (pa_cons (pe_fld (pv 0) rfl) pa_nil)) (pg_tup rfl (pgs_cons (pg_name (i := 2) sc_System_bad_cycle.nd rfl (by first | exact Or.inl rfl | exact Or.inr rfl)) (pgs_cons (pg_tup rfl (pgs_cons (pg_name (i := 3) sc_System_bad_cycle.nd rfl (by first | exact Or.inl rfl | exact Or.inr rfl)) (pgs_cons (pg_name (i := 4) sc_System_bad_cycle.nd rfl (by first | exact Or.inl rfl | exact Or.inr rfl)) (pgs_cons (pg_name (i := 5) sc_System_bad_cycle.nd rfl (by first | exact Or.inl rfl | exact Or.inr rfl)) pgs_nil)))) pgs_nil)))
        (pss_one (ps_if (pt_cmpR op_ne (pe_call G_reduced_number (hr.mono (by decide)) rfl T.reduced_number.m T.reduced_number.F.kp T.reduced_number.b .nil pass0 (pa_cons (pe_op op_sub (pe_op op_sub (pe_ix ix_list (pv 1) (pv 3) (fun _ _ => rfl)) (pe_ix ix_list (pv 1) (pv 4) (fun _ _ => rfl))) (pv 5)) (pa_cons (pe_fld (pv 0) rfl) pa_nil))) pe_int (nomark _)) (pss_one (ps_ret (pe_op op_cat (pe_lst (pa_cons (pe_tup (pa_cons (pv 2) (pa_cons pe_int pa_nil))) pa_nil)) (pe_meth (pv 0) T.cl_System T.System_path.m G_System_path (hr.mono (by decide)) T.System_path.b .nil pass0 (pa_cons (pv 4) (pa_cons (pv 3) pa_nil)))))) pss_nil)))
      (pss_one (ps_ret pe_non)))), ?_⟩
    obtain ⟨dx, ra, la, ga, Ls, G, S⟩ := id hS
    refine ⟨_, rfl, x, dx, _, rfl, S.at_, rfl, x, n, m, rows, F, rfl, hS, hN, fun H1 fa f e1 _ hf L => ?_⟩
    obtain ⟨rs, hr1, hr2⟩ := id S.ra
    have hrl := Paired.length hr2
    refine ⟨_, rfl, x, _, dx, _, _, rfl, e1 _ _ S.at_, T.cl_System, T.na_System_rows, rfl, ra, _, rfl, SqL.of (e1 _ _ hr1), for_it (walk_enum (K := K) (a := ra) (xs := rs)) (fun i σ H2 => ∃ (u v z y : Option V), σ = [some (.ref x), some (.ref fa), u, v, z, y] ∧ Same H1 H2 ∧ ∀ j, j < i → ∀ r, rows[j]? = some r → Meets m (fn f) r)
      ⟨_, _, _, _, rfl, Same.refl _, fun j hj => absurd hj (Nat.not_lt_zero j)⟩ (fun i σ H2 _ ⟨_, _, _, _, _, e, _⟩ => SqL.of (e _ _ (e1 _ _ hr1))) ?_ ?_⟩
    · rintro i x1 σ H2 H3 hi ⟨u, v, z, y, rfl, e2, hM⟩ ⟨T0, p1, p2, rfl, hT0, rfl, hp1, hp2⟩
      cases hp1
      obtain ⟨⟨t, h, d⟩, hrow, t2, rfl, ht2⟩ := Paired.at2 hr2 hp2
      have hps : (psOf rows)[i]? = some (t, h) := psOf_at.mpr ⟨d, hrow⟩
      obtain ⟨b1, b2⟩ := hN.ed.at_ hps
      have n1 : Same H2 (upd H2 T0 (.tup [.int (i : Nat), .ref t2])) := Same.new hT0
      have et := e2.trans n1
      obtain ⟨gx, hgx⟩ : ∃ gx, f[t]? = some gx := ⟨_, List.getElem?_eq_getElem (by rw [L.len]; exact b1)⟩
      obtain ⟨gy, hgy⟩ : ∃ gy, f[h]? = some gy := ⟨_, List.getElem?_eq_getElem (by rw [L.len]; exact b2)⟩
      have hf3 := et _ _ hf
      refine ⟨T0, _, rfl, SqT.of upd_same, rfl, _, _, rfl, _, _, rfl, t2, _, rfl, SqT.of (et _ _ (e1 _ _ ht2)), rfl, _, _, rfl, _, _, rfl, _, _, rfl, rfl, rfl, ?_⟩
      generalize upd H2 T0 (.tup [.int (i : Nat), .ref t2]) = H3 at n1 et hf3
      refine ⟨_, rfl, _, rfl, fa, _, _, _, rfl, rfl, SqL.of hf3, ints_at2 hgx, _, rfl, _, rfl, fa, _, _, _, rfl, rfl, SqL.of hf3, ints_at2 hgy, _, _, rfl, rfl, _, rfl, _, _, rfl, rfl, _, rfl, x, _, dx, _, _, rfl, et _ _ (e1 _ _ S.at_), T.cl_System, T.na_System_own_modulus, rfl, _, m, rfl, rfl, _, rfl, ?_⟩
      have hex : Meets m (fn f) (t, h, d) ↔ red m (gx - gy - d) = 0 := by
        rw [red_zero hN.mo]
        unfold Meets
        rw [fn_at hgx, fn_at hgy]
      by_cases c : red m (gx - gy - d) = 0
      · refine iteNS (by rw [c]) ?_
        refine ⟨_, _, _, _, rfl, et, fun j hj r hr => ?_⟩
        by_cases e : j = i
        · subst e
          rw [hrow] at hr
          cases hr
          exact hex.mpr c
        · exact hM j (by omega) r hr
      · have c2 : (!decide (V.int (red m (gx - gy - d)) = V.int 0)) = true := by rw [decide_eq_false fun z => c (V.int.inj z)]; rfl
        rw [c2]
        refine iteT ?_
        refine ⟨_, rfl, (by show 2 ≤ sizeLine; decide), fun q hq => ?_⟩
        refine ⟨(by show 1 ≤ sizeLine; decide), fun l hl => ?_⟩
        have n2 : Same H3 (upd H3 q (.tup [.int (i : Nat), .int 1])) := Same.new hq
        have n3 : Same (upd H3 q (.tup [.int (i : Nat), .int 1])) (upd (upd H3 q (.tup [.int (i : Nat), .int 1])) l (.lst [.ref q])) := Same.new hl
        have et3 := e1.trans (et.trans (n2.trans n3))
        have hq3 := n3 _ _ (upd_same (H := H3) (a := q))
        refine ⟨_, rfl, x, dx, _, rfl, et3 _ _ S.at_, rfl, _, rfl, _, rfl, x, h, t, n, m, rows, F, rfl, hS.same et3, hN, b2, (hN.fo.con i t h hps).symm, fun H4 a P0 e4 ⟨ys, ha1, ha2⟩ hW hPl => ?_⟩
        have hal := Paired.length ha2
        refine ⟨l, a, _, _, rfl, rfl, e4 _ _ upd_same, ha1, (by show 1 + ys.length ≤ sizeLine; exact sz _ (by omega)), fun p hp => ?_⟩
        have n5 : Same H4 (upd H4 p (.lst ([.ref q] ++ ys))) := Same.new hp
        refine k2 _ p ((i, 1) :: P0) (et3.trans (e4.trans n5)) ⟨_, upd_same, .cons ⟨q, rfl, n5 _ _ (e4 _ _ hq3)⟩ (Paired.mono m_Step n5 ha2)⟩ (L.excl hN.fo hN.ed hrow (fun z => c (hex.mp (by unfold Meets; exact z))) hW) ?_ ?_
        · intro s hs
          rcases List.mem_cons.mp hs with rfl | hs
          · exact (List.getElem?_eq_some_iff.mp hrow).1
          · have := hN.fo.lt _ (hW.step s hs).1
            rw [List.length_map] at this
            exact this
        · rw [List.length_cons]; omega
    · rintro σ H2 ⟨u, v, z, y, rfl, e2, hM⟩
      exact k1 H2 (e1.trans e2) ⟨fn f, fun j r hr => hM j (by rw [hrl]; exact (List.getElem?_eq_some_iff.mp hr).1) r hr⟩
end
end Tt
end
section
set_option maxHeartbeats 4000000
namespace Tt
open PySem PySem.Spec PyProof.Rows L2
theorem SqT.same {K : PySem.W.Frag} {H H' : Hp} {a : Addr} {xs : List V} (h : SqT K H a xs) (e : Same H H') : SqT K H' a xs :=
  h.elim (fun h => .inl (h.elim (fun h => .inl (e _ _ h)) fun ⟨o, h⟩ => .inr ⟨o, e _ _ h⟩)) fun h => .inr h
section
variable {P : Program} {w : World} {K : PySem.W.Frag} {mg : Str → Option Value} {base : Heap}
/-- what the solver says -/
def Answer (n : Nat) (m : Int) (rows : List Rw) (H H' : Hp) (t : Addr) : Prop :=
  Same H H' ∧ ((∃ (fa : Addr) (f : List Int), H' t = some (.tup [.str "potential", .ref fa]) ∧ H' fa = some (.lst (f.map V.int)) ∧ f.length = n ∧ (∀ x ∈ f, Res m x) ∧ Sol m rows (fn f)) ∨
    ∃ (wa : Addr) (W : Pt), H' t = some (.tup [.str "cycle", .ref wa]) ∧ ListAt StepR H' wa W ∧ Excl m rows W ∧ (∀ s ∈ W, s.1 < rows.length) ∧ W.length ≤ 31)
def sp_System_solved (K : PySem.W.Frag) (C : Addr) : Sp := fun vs H Q _ => ∃ (x ft : Addr) (n : Nat) (m : Int) (rows : List Rw) (F : List Nat), vs = [.ref x, .ref ft] ∧ SqT K H ft [] ∧ SysAt C n m rows F H x ∧ SysN n m rows F ∧
  ∀ H' t, Answer n m rows H H' t → Q (.ref t) H'
theorem ok_System_solved (T : Tx K mg) : FnOk P w K mg base CX0 4 T.System_solved.f T.System_solved.fd N_System_solved_ps (sp_System_solved K T.System) := by
  have G_System_bad_cycle := ok_System_bad_cycle (P := P) (w := w) (base := base) T
  have G_System_levels := ok_System_levels (P := P) (w := w) (base := base) T
  have G_System_path := ok_System_path (P := P) (w := w) (base := base) T
  have G_reduced_number := ok_reduced_number (P := P) (w := w) (base := base) T
  refine T.System_solved.F.ok sc_System_solved (fun vs H Q E h => ?_) (fun cdv A outer s H vs Q E hr h => ?_)
  · obtain ⟨x, ft, n, m, rows, F, rfl, hft, hS, hN, k⟩ := h
    rfl
  · obtain ⟨x, ft, n, m, rows, F, rfl, hft, hS, hN, k⟩ := h
    have hu := hu_of hr
    refine ⟨_, PSs.nox (pss_cons (ps_set (i := 2) sc_System_solved.nd rfl (by first | exact Or.inl rfl | exact Or.inr rfl) (pe_meth0 (pv 0) T.cl_System T.System_bad_cycle.m G_System_bad_cycle (hr.mono (by decide)) T.System_bad_cycle.b .nil pass0))
      (pss_cons (ps_if (pt_cmpR op_notN (pv 2) pe_non (nomark _)) (pss_one (ps_ret (pe_tup (pa_cons pe_str (pa_cons (pv 2) pa_nil))))) pss_nil)
      (pss_cons (ps_set (i := 3) sc_System_solved.nd rfl (by first | exact Or.inl rfl | exact Or.inr rfl) (pe_meth0 (pv 0) T.cl_System T.System_levels.m G_System_levels (hr.mono (by decide)) T.System_levels.b .nil pass0))
      (pss_cons (ps_for PassesOwn.never rfl (pi_list (pe_fld (pv 0) rfl)) (pg_name (i := 4) sc_System_solved.nd rfl (by first | exact Or.inl rfl | exact Or.inr rfl))
        (pss_cons (ps_setLc (i := 5) (own := [("node", 6)]) (g := gName 6) rfl sc_System_solved.nd rfl rfl (sw_true rfl rfl rfl (by decide +kernel)) (pi_list (pe_callB (cr_sortedT0 rfl) (by rfl) T.n_sorted (by decide +kernel) (pa_cons (pv 1) pa_nil))) (blkOk_by (N := N_System_solved) (sc := defScope (inClass (top 21) 4)) (by decide +kernel)) (fun _ _ _ _ _ => (pg_name (i := 6) sc_System_solved.nd rfl (by first | exact Or.inl rfl | exact Or.inr rfl))) (fun _ _ _ _ _ => (pts_one (pt_cmpR (op_in_seqB (K := K) rfl) (pv 6) (pv 4) rfl))) (fun _ _ _ _ _ => (pv 6)))
        (pss_cons (ps_for PassesOwn.never rfl (pi_list (pv 5)) (pg_name (i := 6) sc_System_solved.nd rfl (by first | exact Or.inl rfl | exact Or.inr rfl))
          (pss_one (ps_if (pt_cmpR op_ne (pe_ix ix_list (pv 3) (pv 6) (fun _ _ => rfl)) (pe_ix ix_list (pv 3) (pe_ix ix_list (pv 5) pe_int (fun _ _ => rfl)) (fun _ _ => rfl)) (nomark _)) (pss_one (ps_ret (pe_tup (pa_cons pe_str (pa_cons (pe_meth (pv 0) T.cl_System T.System_path.m G_System_path (hr.mono (by decide)) T.System_path.b .nil pass0 (pa_cons (pe_ix ix_list (pv 5) pe_int (fun _ _ => rfl)) (pa_cons (pv 6) pa_nil))) pa_nil))))) pss_nil)))
        (pss_one (ps_if (pt_truth (pv 5) (by intro _; rfl)) (pss_cons (ps_set (i := 7) sc_System_solved.nd rfl (by first | exact Or.inl rfl | exact Or.inr rfl) (pe_ix ix_list (pv 3) (pe_ix ix_list (pv 5) pe_int (fun _ _ => rfl)) (fun _ _ => rfl)))
          (pss_one (ps_for PassesOwn.never rfl (pi_list (pv 4)) (pg_name (i := 6) sc_System_solved.nd rfl (by first | exact Or.inl rfl | exact Or.inr rfl))
            (pss_one (ps_asg (pe_call G_reduced_number (hr.mono (by decide)) rfl T.reduced_number.m T.reduced_number.F.kp T.reduced_number.b .nil pass0 (pa_cons (pe_op op_sub (pe_ix ix_list (pv 3) (pv 6) (fun _ _ => rfl)) (pv 7)) (pa_cons (pe_fld (pv 0) rfl) pa_nil))) (pg_sub (pv 3) (pv 6) set_list)))))) pss_nil)))))
      (pss_one (ps_ret (pe_tup (pa_cons pe_str (pa_cons (pv 3) pa_nil))))))))), ?_⟩
    obtain ⟨dx, ra, la, ga, Ls, G, S⟩ := id hS
    refine ⟨_, rfl, x, dx, _, rfl, S.at_, rfl, x, n, m, rows, F, rfl, hS, hN, fun H1 e1 ⟨q, hq⟩ => ?_, fun H1 wa W e1 hW hE hlt hl => ?_⟩
    · refine ⟨_, rfl, rfl, _, rfl, iteNS rfl ?_⟩
      refine ⟨_, rfl, x, dx, _, rfl, e1 _ _ S.at_, rfl, x, n, m, rows, F, rfl, hS.same e1, hN, fun H2 fa f e2 _ hf L => ?_⟩
      obtain ⟨gs, hg1, hg2⟩ := id S.ga
      have e02 := e1.trans e2
      refine ⟨_, rfl, x, _, dx, _, _, rfl, e02 _ _ S.at_, T.cl_System, T.na_System_groups, rfl, ga, rfl, ⟨_, SqL.of (e02 _ _ hg1)⟩, for_list (K := K) (a := ga) (xs := gs) (fun i σ H3 => ∃ (u v z y : Option V), σ = [some (.ref x), some (.ref ft), some .non, some (.ref fa), u, v, z, y] ∧ Same H2 H3)
        ⟨_, _, _, _, rfl, Same.refl _⟩ (fun i σ H3 _ ⟨_, _, _, _, _, e⟩ => SqL.of (e _ _ (e02 _ _ hg1))) ?_ ?_⟩
      · rintro i y0 σ H3 hi ⟨u, v, z, y, rfl, e3⟩
        refine ⟨_, rfl, ft, rfl, SqT.same hft (e02.trans e3), fun p hp => ?_⟩
        refine ⟨p, rfl, ⟨_, SqL.of upd_same⟩, fun D hD => ?_⟩
        have n1 : Same H3 (upd H3 p (.lst [])) := Same.new hp
        refine lc_list (K := K) (a := p) (xs := []) (fun t H7 => Same H3 H7 ∧ H7 p = some (.lst []) ∧ H7 D = some (.lst [])) ⟨n1.trans (Same.new hD), Same.new hD _ _ upd_same, upd_same⟩ (fun t H7 _ ⟨_, e, _⟩ => SqL.of e) ?_ ?_
        · intro t y1 H7 ht
          rw [List.getElem?_nil] at ht
          cases ht
        rintro H7 ⟨e7, _, h7⟩
        refine ⟨_, rfl, D, rfl, ⟨_, SqL.of h7⟩, for_list (K := K) (a := D) (xs := []) (fun t σ H8 => σ = [some (.ref x), some (.ref ft), some .non, some (.ref fa), some y0, some (.ref D), z, y] ∧ Same H2 H8 ∧ H8 D = some (.lst [])) ⟨rfl, e3.trans e7, h7⟩ (fun t σ H8 _ ⟨_, _, e⟩ => SqL.of e) ?_ ?_⟩
        · intro t y1 σ H8 ht
          rw [List.getElem?_nil] at ht
          cases ht
        rintro σ H8 ⟨rfl, e8, h8⟩
        refine ⟨_, rfl, false, .inl ⟨_, SqL.of h8, rfl⟩, iteF ?_⟩
        exact ⟨_, _, _, _, rfl, e8⟩
      · rintro σ H3 ⟨u, v, z, y, rfl, e3⟩
        refine ⟨_, rfl, (by show 2 ≤ sizeLine; decide), fun t ht => ?_⟩
        have n1 : Same H3 (upd H3 t (.tup [.str "potential", .ref fa])) := Same.new ht
        exact k _ t ⟨e02.trans (e3.trans n1), .inl ⟨fa, f, upd_same, n1 _ _ (e3 _ _ hf), L.len, L.res, L.meets hN.fo hN.ed hq⟩⟩
    · refine ⟨_, rfl, rfl, _, rfl, ?_⟩
      have c2 : (!decide (V.ref wa = V.non)) = true := rfl
      rw [c2]
      refine iteT ?_
      refine ⟨_, rfl, (by show 2 ≤ sizeLine; decide), fun t ht => ?_⟩
      have n1 : Same H1 (upd H1 t (.tup [.str "cycle", .ref wa])) := Same.new ht
      exact k _ t ⟨e1.trans n1, .inr ⟨wa, W, upd_same, hW.same m_Step n1, hE, hlt, hl⟩⟩
end
end Tt
end
section
set_option maxHeartbeats 4000000
namespace Tt
open PySem PySem.Spec PyProof.Rows L2
section
variable {P : Program} {w : World} {K : PySem.W.Frag} {mg : Str → Option Value} {base : Heap}
def sp_Web_init (C : Addr) : Sp := fun vs H Q _ => ∃ (x dx ea : Addr) (n : Nat) (m : Int) (es : Es), vs = [.ref x, .int n, .ref ea, .int m] ∧ H x = some (.ins C dx []) ∧ ListAt PairR H ea es ∧ EdOk n es ∧ 1 ≤ n ∧ n ≤ 30 ∧ es.length ≤ 60 ∧ ModOk m ∧
  ∀ H' l dx' fa la, (∀ b o, H b = some o → b ≠ x → H' b = some o) → H l = none → H' x = some (.ins C dx' (wfs n m l fa la)) → ListAt PairR H' l es → Q .non H'
theorem ok_Web_init (T : Tx K mg) : FnOk P w K mg base CX0 5 T.Web_init_f T.Web_init_fd N_Web_init_ps (sp_Web_init T.Web) := by
  have G_check_edges := ok_check_edges (P := P) (w := w) (base := base) T
  have G_forest_of := ok_forest_of (P := P) (w := w) (base := base) T
  have G_is_modulus := ok_is_modulus (P := P) (w := w) (base := base) T
  have G_is_within := ok_is_within (P := P) (w := w) (base := base) T
  have G_links_of := ok_links_of (P := P) (w := w) (base := base) T
  refine T.Web_init_F.ok sc_Web_init (fun vs H Q E h => ?_) (fun cdv A outer s H vs Q E hr h => ?_)
  · obtain ⟨x, dx, ea, n, m, es, rfl, hx, hea, hes, h1, hn, hl, hm, k⟩ := h
    rfl
  · obtain ⟨x, dx, ea, n, m, es, rfl, hx, hea, hes, h1, hn, hl, hm, k⟩ := h
    have hu := hu_of hr
    refine ⟨_, PSs.nox (pss_cons (ps_if (pt_not (pt_val (pe_call G_is_within (hr.mono (by decide)) rfl T.is_within.m T.is_within.F.kp T.is_within.b .nil pass0 (pa_cons (pv 1) (pa_cons pe_int (pa_cons (pe_glob (v := .int 30) rfl T.g_MOST_NODES ⟨_, rfl⟩) pa_nil)))))) (pss_one ps_never) pss_nil)
      (pss_cons (ps_expr (pe_call G_check_edges (hr.mono (by decide)) rfl T.check_edges.m T.check_edges.F.kp T.check_edges.b .nil pass0 (pa_cons (pv 1) (pa_cons (pv 2) pa_nil))))
      (pss_cons (ps_if (pt_not (pt_val (pe_call G_is_modulus (hr.mono (by decide)) rfl T.is_modulus.m T.is_modulus.F.kp T.is_modulus.b .nil pass0 (pa_cons (pv 3) pa_nil)))) (pss_one ps_never) pss_nil)
      (pss_cons (ps_fld (pv 0) (pv 1) rfl)
      (pss_cons (ps_fld (pv 0) (pe_callTy call_list_of (by rfl) T.n_list (by decide +kernel) (pa_cons (pv 2) pa_nil)) rfl)
      (pss_cons (ps_fld (pv 0) (pv 3) rfl)
      (pss_cons (ps_fld (pv 0) (pe_call G_forest_of (hr.mono (by decide)) rfl T.forest_of.m T.forest_of.F.kp T.forest_of.b .nil pass0 (pa_cons (pv 1) (pa_cons (pv 2) pa_nil))) rfl)
      (pss_one (ps_fld (pv 0) (pe_call G_links_of (hr.mono (by decide)) rfl T.links_of.m T.links_of.F.kp T.links_of.b .nil pass0 (pa_cons (pv 1) (pa_cons (pv 2) (pa_cons (pe_fld (pv 0) rfl) pa_nil)))) rfl))))))))), ?_⟩
    have hD := hea.del k_Pair hx noSeq_ins
    refine ⟨_, rfl, _, _, _, rfl, (by omega), (by omega), _, rfl, iteF ?_⟩
    refine ⟨_, rfl, _, rfl, n, ea, es, rfl, hea, hes, hl, fun H1 e1 => ?_⟩
    refine ⟨_, rfl, m, rfl, hm, _, rfl, iteF ?_⟩
    have hx1 := e1 _ _ hx
    have d1 : Same (Del H x) H1 := (Del.same H x).trans e1
    refine ⟨_, rfl, _, rfl, x, _, dx, _, rfl, hx1, T.cl_Web, T.na_Web_own_size, (by show 0 < 1000; decide), ?_⟩
    have d2 := Same.mut (o := .ins T.Web dx (putF "own_size" (.int n) [])) d1 (Del.none H x)
    obtain ⟨xs, q1, q2⟩ := hD.same m_Pair d2
    have hx2 : upd H1 x (.ins T.Web dx (putF "own_size" (.int n) [])) x = some (.ins T.Web dx (putF "own_size" (.int n) [])) := upd_same
    generalize upd H1 x (.ins T.Web dx (putF "own_size" (.int n) [])) = H2 at d2 q1 q2 hx2
    refine ⟨_, rfl, ea, xs, rfl, .inl (SqL.of q1), fun l hl0 => ?_⟩
    have n3 : Same H2 (upd H2 l (.lst xs)) := Same.new hl0
    have hlx : l ≠ x := (ne_of_none hx2 hl0).symm
    have hlH : H l = none := by
      have := d2.free hl0
      rw [Del.at_ hlx] at this
      exact this
    have hl3 : ListAt PairR (upd H2 l (.lst xs)) l es := ⟨xs, upd_same, Paired.mono m_Pair n3 q2⟩
    have hx3 := n3 _ _ hx2
    have d3 := d2.trans n3
    generalize upd H2 l (.lst xs) = H3 at n3 hl3 hx3 d3
    have hl3' := hl3.del k_Pair hx3 noSeq_ins
    refine ⟨_, rfl, x, _, dx, _, rfl, hx3, T.cl_Web, T.na_Web_own_edges, (by show 1 < 1000; decide), ?_⟩
    have f4 := Same.mut (o := .ins T.Web dx (putF "own_edges" (.ref l) (putF "own_size" (.int n) []))) (Del.same H3 x) (Del.none H3 x)
    have d4 := Same.mut (o := .ins T.Web dx (putF "own_edges" (.ref l) (putF "own_size" (.int n) []))) d3 (Del.none H x)
    have hx4 : upd H3 x (.ins T.Web dx (putF "own_edges" (.ref l) (putF "own_size" (.int n) []))) x = some (.ins T.Web dx (putF "own_edges" (.ref l) (putF "own_size" (.int n) []))) := upd_same
    generalize upd H3 x (.ins T.Web dx (putF "own_edges" (.ref l) (putF "own_size" (.int n) []))) = H4 at f4 d4 hx4
    refine ⟨_, rfl, _, rfl, x, _, dx, _, rfl, hx4, T.cl_Web, T.na_Web_own_modulus, (by show 2 < 1000; decide), ?_⟩
    have f5 := Same.mut (o := .ins T.Web dx (putF "own_modulus" (.int m) (putF "own_edges" (.ref l) (putF "own_size" (.int n) [])))) f4 (Del.none H3 x)
    have d5 := Same.mut (o := .ins T.Web dx (putF "own_modulus" (.int m) (putF "own_edges" (.ref l) (putF "own_size" (.int n) [])))) d4 (Del.none H x)
    have hx5 : upd H4 x (.ins T.Web dx (putF "own_modulus" (.int m) (putF "own_edges" (.ref l) (putF "own_size" (.int n) [])))) x = some (.ins T.Web dx (putF "own_modulus" (.int m) (putF "own_edges" (.ref l) (putF "own_size" (.int n) [])))) := upd_same
    generalize upd H4 x (.ins T.Web dx (putF "own_modulus" (.int m) (putF "own_edges" (.ref l) (putF "own_size" (.int n) [])))) = H5 at f5 d5 hx5
    refine ⟨_, rfl, _, rfl, n, ea, es, rfl, hD.same m_Pair d5, hes, hn, by omega, fun H6 fa F e6 _ hfa FO flen => ?_⟩
    have hx6 := e6 _ _ hx5
    have f6 := f5.trans e6
    have d6 := d5.trans e6
    refine ⟨_, rfl, x, _, dx, _, rfl, hx6, T.cl_Web, T.na_Web_own_forest, (by show 3 < 1000; decide), ?_⟩
    have hfa7 : upd H6 x (.ins T.Web dx (putF "own_forest" (.ref fa) (putF "own_modulus" (.int m) (putF "own_edges" (.ref l) (putF "own_size" (.int n) []))))) fa = some (.lst (nv F)) := by rw [upd_ne (ne_of hfa hx6 fun z => nomatch z)]; exact hfa
    have f7 := Same.mut (o := .ins T.Web dx (putF "own_forest" (.ref fa) (putF "own_modulus" (.int m) (putF "own_edges" (.ref l) (putF "own_size" (.int n) []))))) f6 (Del.none H3 x)
    have d7 := Same.mut (o := .ins T.Web dx (putF "own_forest" (.ref fa) (putF "own_modulus" (.int m) (putF "own_edges" (.ref l) (putF "own_size" (.int n) []))))) d6 (Del.none H x)
    have hx7 : upd H6 x (.ins T.Web dx (putF "own_forest" (.ref fa) (putF "own_modulus" (.int m) (putF "own_edges" (.ref l) (putF "own_size" (.int n) []))))) x = some (.ins T.Web dx (putF "own_forest" (.ref fa) (putF "own_modulus" (.int m) (putF "own_edges" (.ref l) (putF "own_size" (.int n) []))))) := upd_same
    generalize upd H6 x (.ins T.Web dx (putF "own_forest" (.ref fa) (putF "own_modulus" (.int m) (putF "own_edges" (.ref l) (putF "own_size" (.int n) []))))) = H7 at f7 d7 hx7 hfa7
    refine ⟨_, rfl, _, rfl, _, rfl, x, _, dx, _, _, rfl, hx7, T.cl_Web, T.na_Web_own_forest, rfl, n, ea, fa, es, F, rfl, hD.same m_Pair d7, hes, hn, hfa7, FO.lt, by omega, fun H8 la Ls e8 _ hla LO => ?_⟩
    have hx8 := e8 _ _ hx7
    refine ⟨_, rfl, x, _, dx, _, rfl, hx8, T.cl_Web, T.na_Web_links, (by show 4 < 1000; decide), ?_⟩
    rw [wfs_put]
    have f9 := Same.mut (o := .ins T.Web dx (wfs n m l fa la)) (f7.trans e8) (Del.none H3 x)
    have d9 := Same.mut (o := .ins T.Web dx (wfs n m l fa la)) (d7.trans e8) (Del.none H x)
    exact k _ l dx fa la (fun b o hb hbx => Del.back d9 hb hbx) hlH upd_same (hl3'.same m_Pair f9)
end
end Tt
end
section
set_option maxHeartbeats 4000000
namespace Tt
/-! ### the rows of all webs, one behind another -/
def rowsW (es : Es) (b a : List Int) : List Rw := List.zipWith (fun e d => (e.1, e.2, d)) es (List.zipWith (fun y x => y - x) a b)
theorem rowsW_at {es : Es} {b a : List Int} {j t h : Nat} {x y : Int} (h1 : es[j]? = some (t, h)) (h2 : b[j]? = some x) (h3 : a[j]? = some y) : (rowsW es b a)[j]? = some (t, h, y - x) := by
  unfold rowsW
  rw [List.getElem?_zipWith, h1, List.getElem?_zipWith, h3, h2]
theorem rowsW_len {es : Es} {b a : List Int} (h1 : b.length = es.length) (h2 : a.length = es.length) : (rowsW es b a).length = es.length := by
  unfold rowsW
  rw [List.length_zipWith, List.length_zipWith, h1, h2]
  omega
theorem rowsW_ps {es : Es} {b a : List Int} (h1 : b.length = es.length) (h2 : a.length = es.length) : (rowsW es b a).map (fun r => (r.1, r.2.1)) = es := by
  apply List.ext_getElem?
  intro j
  rw [List.getElem?_map]
  cases he : es[j]? with
  | none =>
    have := List.getElem?_eq_none_iff.mp he
    rw [List.getElem?_eq_none (by rw [rowsW_len h1 h2]; exact this)]
    rfl
  | some e =>
    obtain ⟨t, h⟩ := e
    have hl := (List.getElem?_eq_some_iff.mp he).1
    rw [rowsW_at he (List.getElem?_eq_getElem (by omega)) (List.getElem?_eq_getElem (by omega))]
    rfl
def rowsL (webs : List Es) (bs as : List (List Int)) : List (List Rw) := List.zipWith (fun es ab => rowsW es ab.2 ab.1) webs (as.zip bs)
theorem rowsL_at {webs : List Es} {bs as : List (List Int)} {i : Nat} {es : Es} {b a : List Int} (h1 : webs[i]? = some es) (h2 : bs[i]? = some b) (h3 : as[i]? = some a) : (rowsL webs bs as)[i]? = some (rowsW es b a) := by
  unfold rowsL
  have hz : (as.zip bs)[i]? = some (a, b) := by
    rw [List.zip, List.getElem?_zipWith, h3, h2]
  rw [List.getElem?_zipWith, h1, hz]
def plcL (webs : List Es) : List (List (Nat × Nat)) := webs.mapIdx fun k es => (List.range es.length).map fun j => (k, j)
theorem plcL_at {webs : List Es} {i : Nat} {es : Es} (h : webs[i]? = some es) : (plcL webs)[i]? = some ((List.range es.length).map fun j => (i, j)) := by
  unfold plcL
  rw [List.getElem?_mapIdx, h]
  rfl
theorem plc_at {n i j : Nat} (h : j < n) : ((List.range n).map fun j => (i, j))[j]? = some (i, j) := by
  rw [List.getElem?_map, List.getElem?_range h]
  rfl
section
variable {α β : Type}
theorem take1 {l : List α} {i : Nat} {x : α} (h : l[i]? = some x) : l.take (i + 1) = l.take i ++ [x] := by
  rw [List.take_add_one, h]; rfl
theorem take_flat {L : List (List α)} {k : Nat} {l : List α} (h : L[k]? = some l) : (L.take (k + 1)).flatten = (L.take k).flatten ++ l := by
  rw [take1 h, List.flatten_append]
  simp
theorem flat_at {x : α} : ∀ {L : List (List α)} {k j : Nat} {l : List α}, L[k]? = some l → l[j]? = some x → L.flatten[(L.take k).flatten.length + j]? = some x
  | [], k, j, l, h, _ => by simp at h
  | l0 :: L, 0, j, l, h, hx => by
    simp at h
    subst h
    have hj := (List.getElem?_eq_some_iff.mp hx).1
    show (l0 ++ L.flatten)[0 + j]? = some x
    rw [Nat.zero_add, List.getElem?_append_left hj]
    exact hx
  | l0 :: L, k + 1, j, l, h, hx => by
    have ih := flat_at (L := L) (k := k) (by simpa using h) hx
    show (l0 ++ L.flatten)[(l0 ++ (L.take k).flatten).length + j]? = some x
    rw [List.length_append, List.getElem?_append_right (by omega), show l0.length + (List.take k L).flatten.length + j - l0.length = (List.take k L).flatten.length + j by omega]
    exact ih
theorem flat_inv : ∀ {L : List (List α)} {i : Nat}, i < L.flatten.length → ∃ k l j, L[k]? = some l ∧ j < l.length ∧ i = (L.take k).flatten.length + j
  | [], i, h => by simp at h
  | l0 :: L, i, h => by
    by_cases c : i < l0.length
    · exact ⟨0, l0, i, rfl, c, by simp⟩
    · have h2 : i - l0.length < L.flatten.length := by
        have h3 : i < (l0 ++ L.flatten).length := h
        rw [List.length_append] at h3
        omega
      obtain ⟨k, l, j, e1, e2, e3⟩ := flat_inv h2
      refine ⟨k + 1, l, j, by simpa using e1, e2, ?_⟩
      show i = (l0 ++ (L.take k).flatten).length + j
      rw [List.length_append]
      omega
theorem flat_len {L : List (List α)} {M : List (List β)} (h : L.map List.length = M.map List.length) (k : Nat) : (L.take k).flatten.length = (M.take k).flatten.length := by
  rw [List.length_flatten, List.length_flatten, List.map_take, List.map_take, h]
theorem flat_le {L : List (List α)} {b : Nat} (h : ∀ l ∈ L, l.length ≤ b) : ∀ k, (L.take k).flatten.length ≤ b * k
  | 0 => by simp
  | k + 1 => by
    have ih := flat_le h k
    cases e : L[k]? with
    | none =>
      have hk := List.getElem?_eq_none_iff.mp e
      rw [List.take_of_length_le (by omega)] at ih ⊢
      have : b * k ≤ b * (k + 1) := Nat.mul_le_mul_left _ (by omega)
      omega
    | some l =>
      rw [take_flat e, List.length_append]
      have := h l (List.mem_of_getElem? e)
      rw [Nat.mul_succ]
      omega
end
theorem psOf_app (a b : List Rw) : psOf (a ++ b) = psOf a ++ psOf b := List.map_append
/-- lists of equal lengths -/
structure LenOk (webs : List Es) (bs as : List (List Int)) : Prop where
  lb : bs.length = webs.length
  la : as.length = webs.length
  eb : ∀ (k : Nat) (es : Es) (b : List Int), webs[k]? = some es → bs[k]? = some b → b.length = es.length
  ea : ∀ (k : Nat) (es : Es) (a : List Int), webs[k]? = some es → as[k]? = some a → a.length = es.length
theorem LenOk.at_ {webs : List Es} {bs as : List (List Int)} (h : LenOk webs bs as) {k : Nat} {es : Es} (e : webs[k]? = some es) : ∃ b a, bs[k]? = some b ∧ as[k]? = some a ∧ b.length = es.length ∧ a.length = es.length ∧ (rowsL webs bs as)[k]? = some (rowsW es b a) := by
  have hk := (List.getElem?_eq_some_iff.mp e).1
  have h1 : bs[k]? = some (bs[k]'(by rw [h.lb]; exact hk)) := List.getElem?_eq_getElem _
  have h2 : as[k]? = some (as[k]'(by rw [h.la]; exact hk)) := List.getElem?_eq_getElem _
  exact ⟨_, _, h1, h2, h.eb k es _ e h1, h.ea k es _ e h2, rowsL_at e h1 h2⟩
theorem LenOk.rlen {webs : List Es} {bs as : List (List Int)} (h : LenOk webs bs as) : (rowsL webs bs as).length = webs.length := by
  unfold rowsL
  rw [List.length_zipWith, List.length_zip, h.lb, h.la]
  omega
theorem LenOk.lens {webs : List Es} {bs as : List (List Int)} (h : LenOk webs bs as) : (rowsL webs bs as).map List.length = webs.map List.length := by
  apply List.ext_getElem?
  intro k
  rw [List.getElem?_map, List.getElem?_map]
  cases e : webs[k]? with
  | none =>
    have := List.getElem?_eq_none_iff.mp e
    rw [List.getElem?_eq_none (by rw [h.rlen]; exact this)]
    rfl
  | some es =>
    obtain ⟨b, a, _, _, e1, e2, e3⟩ := h.at_ e
    rw [e3]
    show some _ = some _
    rw [rowsW_len e1 e2]
theorem plc_lens (webs : List Es) : (plcL webs).map List.length = webs.map List.length := by
  apply List.ext_getElem?
  intro k
  rw [List.getElem?_map, List.getElem?_map]
  cases e : webs[k]? with
  | none =>
    have := List.getElem?_eq_none_iff.mp e
    rw [List.getElem?_eq_none (by unfold plcL; rw [List.length_mapIdx]; exact this)]
  | some es =>
    rw [plcL_at e]
    show some _ = some _
    rw [List.length_map, List.length_range]
theorem LenOk.ps {webs : List Es} {bs as : List (List Int)} (h : LenOk webs bs as) : ∀ k, psOf ((rowsL webs bs as).take k).flatten = (webs.take k).flatten
  | 0 => by simp [psOf]
  | k + 1 => by
    cases e : webs[k]? with
    | none =>
      have hk := List.getElem?_eq_none_iff.mp e
      have ih := h.ps k
      rw [List.take_of_length_le (by rw [h.rlen]; omega), List.take_of_length_le (by omega)] at ih ⊢
      exact ih
    | some es =>
      obtain ⟨b, a, _, _, e1, e2, e3⟩ := h.at_ e
      rw [take_flat e3, take_flat e, psOf_app, h.ps k]
      exact congrArg _ (rowsW_ps e1 e2)
theorem LenOk.psAll {webs : List Es} {bs as : List (List Int)} (h : LenOk webs bs as) : psOf (rowsL webs bs as).flatten = webs.flatten := by
  have q := h.ps webs.length
  rw [List.take_of_length_le (by rw [h.rlen]; exact Nat.le_refl _), List.take_of_length_le (Nat.le_refl _)] at q
  exact q
/-- where the row of edge j of web k stands -/
def place (webs : List Es) (k j : Nat) : Nat := (webs.take k).flatten.length + j
theorem LenOk.row {webs : List Es} {bs as : List (List Int)} (h : LenOk webs bs as) {k j t hd : Nat} {es : Es} {b a : List Int} {x y : Int} (e : webs[k]? = some es) (e1 : bs[k]? = some b) (e2 : as[k]? = some a) (e3 : es[j]? = some (t, hd)) (e4 : b[j]? = some x) (e5 : a[j]? = some y) :
    (rowsL webs bs as).flatten[place webs k j]? = some (t, hd, y - x) := by
  have q := flat_at (rowsL_at e e1 e2) (rowsW_at e3 e4 e5)
  rw [flat_len h.lens] at q
  exact q
theorem plc_place {webs : List Es} {k j : Nat} {es : Es} (e : webs[k]? = some es) (h : j < es.length) : (plcL webs).flatten[place webs k j]? = some (k, j) := by
  have q := flat_at (plcL_at e) (plc_at (i := k) h)
  rw [flat_len (plc_lens webs)] at q
  exact q
theorem flat_place {webs : List Es} {k j : Nat} {es : Es} {d : Nat × Nat} (e : webs[k]? = some es) (h : es[j]? = some d) : webs.flatten[place webs k j]? = some d := flat_at e h
theorem LenOk.len {webs : List Es} {bs as : List (List Int)} (h : LenOk webs bs as) : (rowsL webs bs as).flatten.length = webs.flatten.length := by
  have q := congrArg List.length h.psAll
  rw [show (psOf (rowsL webs bs as).flatten).length = (rowsL webs bs as).flatten.length from List.length_map _] at q
  exact q
/-- every row stands at a place -/
theorem LenOk.inv {webs : List Es} {bs as : List (List Int)} (h : LenOk webs bs as) {i : Nat} (hi : i < (rowsL webs bs as).flatten.length) : ∃ k j t hd es b a x y, webs[k]? = some es ∧ bs[k]? = some b ∧ as[k]? = some a ∧ es[j]? = some (t, hd) ∧ b[j]? = some x ∧ a[j]? = some y ∧ i = place webs k j ∧
    (rowsL webs bs as).flatten[i]? = some (t, hd, y - x) := by
  rw [h.len] at hi
  obtain ⟨k, es, j, e1, e2, e3⟩ := flat_inv hi
  obtain ⟨b, a, e4, e5, e6, e7, _⟩ := h.at_ e1
  have h1 : es[j]? = some ((es[j]'e2).1, (es[j]'e2).2) := List.getElem?_eq_getElem e2
  have h2 : b[j]? = some (b[j]'(by omega)) := List.getElem?_eq_getElem _
  have h3 : a[j]? = some (a[j]'(by omega)) := List.getElem?_eq_getElem _
  exact ⟨k, j, _, _, es, b, a, _, _, e1, e4, e5, h1, h2, h3, e3, by rw [e3]; exact h.row e1 e4 e5 h1 h2 h3⟩
end Tt
end
section
set_option maxHeartbeats 4000000
namespace Tt
open PySem PySem.Spec PyProof.Rows L2
theorem EmptyT.sqT {K : PySem.W.Frag} {e : Addr} (h : EmptyT K e) (H : Hp) : SqT K H e [] := by
  obtain ⟨o, its, n, h1, h2, h3, h4⟩ := h
  exact .inr ⟨o, its, n, h1, h2, h3, by rw [h4]; exact Nat.zero_le _, by
    have : its = #[] := Array.eq_empty_of_size_eq_zero h4
    rw [this]; exact .nil⟩
theorem EmptyT.ty {K : PySem.W.Frag} {e : Addr} (h : EmptyT K e) (H : Hp) : TyX K H (.ref e) (.type "tuple") := by
  obtain ⟨o, its, n, h1, h2, h3, h4⟩ := h
  exact .kTuple h1 h2
section
variable {P : Program} {w : World} {K : PySem.W.Frag} {mg : Str → Option Value} {base : Heap}
def sp_check_fixed (K : PySem.W.Frag) (C : Addr) : Sp := fun vs H Q _ => ∃ (x : V) (t : Addr) (n : Nat) (m : Int) (es : Es), vs = [x, .ref t] ∧ WebR C n m H x es ∧ EmptyT K t ∧ ∀ H', Same H H' → Q .non H'
theorem ok_check_fixed (T : Tx K mg) : FnOk P w K mg base CX0 3 T.check_fixed.f T.check_fixed.fd N_check_fixed_ps (sp_check_fixed K T.Web) := by
  have G_Web_size := ok_Web_size (P := P) (w := w) (base := base) T
  have G_is_within := ok_is_within (P := P) (w := w) (base := base) T
  refine T.check_fixed.F.ok sc_check_fixed (fun vs H Q E h => ?_) (fun cdv A outer s H vs Q E hr h => ?_)
  · obtain ⟨x, t, n, m, es, rfl, hW, hT, k⟩ := h
    rfl
  · obtain ⟨x, t, n, m, es, rfl, hW, hT, k⟩ := h
    have hu := hu_of hr
    refine ⟨_, PSs.nox (pss_cons (ps_set (i := 2) sc_check_fixed.nd rfl (by first | exact Or.inl rfl | exact Or.inr rfl) (pe_and (pe_callB call_isiT (by rfl) T.n_isinstance (by decide +kernel) (pa_cons (pv 1) (pa_cons (pe_tup (pa_cons (pe_bltn (v := .ty "list") (by rfl) T.n_list (by decide +kernel) rfl) (pa_cons (pe_bltn (v := .ty "tuple") (by rfl) T.n_tuple (by decide +kernel) rfl) pa_nil))) pa_nil))) (pe_one (pe_callB (cr_all rfl) (by rfl) T.n_all (by decide +kernel) (pa_cons (pe_lc (own := [("node", 3)]) (g := gName 3) (tt := tYes) rfl sc_check_fixed.nd (pi_tup (pv 1)) (blkOk_by (N := N_check_fixed) (sc := defScope (top 41)) (by decide +kernel)) (fun _ _ _ _ _ => (pg_name (i := 3) sc_check_fixed.nd rfl (by first | exact Or.inl rfl | exact Or.inr rfl))) (fun _ _ _ _ _ => pts_nil) (fun _ _ _ _ _ => (pe_call G_is_within (hr.mono (by decide)) rfl T.is_within.m T.is_within.F.kp T.is_within.b .nil pass0 (pa_cons (pv 3) (pa_cons pe_int (pa_cons (pe_op op_sub (pe_meth0 (pv 0) T.cl_Web T.Web_size.m G_Web_size (hr.mono (by decide)) T.Web_size.b .nil pass0) pe_int) pa_nil)))))) pa_nil)))))
      (pss_one (ps_if (PW.pt (pw_or (pt_not (pt_val (pv 2))) (pw_or1 (pt_cmpR op_ne (pe_callB call_len_seq (by rfl) T.n_len (by decide +kernel) (pa_cons (pv 1) pa_nil)) (pe_lenSet rfl rfl T.n_len rfl T.n_set (pv 1)) (nomark _))))) (pss_one ps_never) pss_nil))), ?_⟩
    refine ⟨_, rfl, (by show 2 ≤ sizeLine; decide), fun p hp => ?_⟩
    have s1 : Same H (upd H p (.tup [.ty "list", .ty "tuple"])) := Same.new hp
    refine ⟨_, _, _, _, _, true, rfl, upd_same, .cons (.ty _) (.cons (.ty _) .nil), hT.ty _, kitAny_cons (kit_ty (r := false) (by decide +kernel)) (fun _ => kitAny_cons (kit_ty (r := true) (by decide +kernel)) (fun z => nomatch z) (fun _ => rfl)) (fun z => nomatch z), _, rfl, iteT ?_⟩
    refine ⟨_, rfl, t, rfl, ⟨_, hT.sqT _⟩, fun D hD => ?_⟩
    refine lc_it (walk_tup (K := K) (a := t) (xs := [])) (fun j H7 => Same H H7 ∧ H7 D = some (.lst [])) ⟨s1.trans (Same.new hD), upd_same⟩ (fun j H7 _ _ => hT.sqT _) ?_ ?_
    · intro i x1 H3 H4 hi
      exact absurd hi (Nat.not_lt_zero i)
    rintro H7 ⟨e7, h7⟩
    refine ⟨D, [], rfl, SqL.of h7, ?_⟩
    refine ⟨_, rfl, _, rfl, iteF ?_⟩
    refine ⟨_, rfl, _, _, rfl, .inr (hT.sqT _), _, rfl, t, [], rfl, .inr (hT.sqT _), (by decide), rfl, _, rfl, ?_⟩
    exact iteF (k _ e7)
def sp_check_webs (C : Addr) : Sp := fun vs H Q _ => ∃ (a : Addr) (n : Nat) (m : Int) (webs : List Es), vs = [.ref a] ∧ ListAt (WebR C n m) H a webs ∧ 1 ≤ webs.length ∧ webs.length ≤ 6 ∧ ∀ H', Same H H' → Q .non H'
theorem ok_check_webs (T : Tx K mg) : FnOk P w K mg base CX0 2 T.check_webs.f T.check_webs.fd N_check_webs_ps (sp_check_webs T.Web) := by
  have G_Web_modulus := ok_Web_modulus (P := P) (w := w) (base := base) T
  have G_Web_size := ok_Web_size (P := P) (w := w) (base := base) T
  refine T.check_webs.F.ok sc_check_webs (fun vs H Q E h => ?_) (fun cdv A outer s H vs Q E hr h => ?_)
  · obtain ⟨a, n, m, webs, rfl, ha, h1, h6, k⟩ := h
    rfl
  · obtain ⟨a, n, m, webs, rfl, ha, h1, h6, k⟩ := h
    have hu := hu_of hr
    refine ⟨_, PSs.nox (pss_cons (ps_if (PW.pt (pw_or (pt_not (pt_val (pe_callB call_isiT (by rfl) T.n_isinstance (by decide +kernel) (pa_cons (pv 0) (pa_cons (pe_tup (pa_cons (pe_bltn (v := .ty "list") (by rfl) T.n_list (by decide +kernel) rfl) (pa_cons (pe_bltn (v := .ty "tuple") (by rfl) T.n_tuple (by decide +kernel) rfl) pa_nil))) pa_nil))))) (pw_or1 (pt_not (pt_chain op_le op_le pe_int (pe_callB call_len_seq (by rfl) T.n_len (by decide +kernel) (pa_cons (pv 0) pa_nil)) (pe_glob (v := .int 6) rfl T.g_MOST_WEBS ⟨_, rfl⟩)))))) (pss_one ps_never) pss_nil)
      (pss_cons (ps_if (pt_not (pt_val (pe_callB (cr_all rfl) (by rfl) T.n_all (by decide +kernel) (pa_cons (pe_lc (own := [("web", 1)]) (g := gName 1) (tt := tYes) rfl sc_check_webs.nd (pi_list (pv 0)) (blkOk_by (N := N_check_webs) (sc := defScope (top 49)) (by decide +kernel)) (fun _ _ _ _ _ => (pg_name (i := 1) sc_check_webs.nd rfl (by first | exact Or.inl rfl | exact Or.inr rfl))) (fun _ _ _ _ _ => pts_nil) (fun _ _ _ _ _ => (pe_callB (call_isCB (K := K) rfl T.ic_Web) (by rfl) T.n_isinstance (by decide +kernel) (pa_cons (pv 1) (pa_cons (pe_glob (v := .ref T.Web) rfl T.g_Web rfl) pa_nil))))) pa_nil)))) (pss_one ps_never) pss_nil)
      (pss_one (ps_if (pt_cmpR op_gt (pe_callB cr_lenTS (by rfl) T.n_len (by decide +kernel) (pa_cons (pe_scT hr.units (own := [("web", 1)]) (g := gName 1) (tt := tYes) rfl sc_check_webs.nd (pi_list (pv 0)) (blkOk_by (N := N_check_webs) (sc := defScope (top 49)) (by decide +kernel)) (fun _ _ _ _ _ => (pg_name (i := 1) sc_check_webs.nd rfl (by first | exact Or.inl rfl | exact Or.inr rfl))) (fun _ _ _ _ _ => pts_nil) (fun _ _ _ _ _ => (pe_tup (pa_cons (pe_meth0 (pv 1) T.cl_Web T.Web_size.m G_Web_size (hr.mono (by decide)) T.Web_size.b .nil pass0) (pa_cons (pe_meth0 (pv 1) T.cl_Web T.Web_modulus.m G_Web_modulus (hr.mono (by decide)) T.Web_modulus.b .nil pass0) pa_nil))))) pa_nil)) pe_int (nomark _)) (pss_one ps_never) pss_nil)))), ?_⟩
    obtain ⟨xs, g1, g2⟩ := id ha
    have hl := Paired.length g2
    refine ⟨_, rfl, (by show 2 ≤ sizeLine; decide), fun p hp => ?_⟩
    have s1 : Same H (upd H p (.tup [.ty "list", .ty "tuple"])) := Same.new hp
    refine ⟨_, _, _, _, _, true, rfl, upd_same, .cons (.ty _) (.cons (.ty _) .nil), .base (.lst (s1 _ _ g1)), kitAny_cons (kit_ty (r := true) (by decide +kernel)) (fun z => nomatch z) (fun _ => rfl), _, rfl, iteF ?_⟩
    refine ⟨_, rfl, _, _, rfl, .inl (SqL.of (s1 _ _ g1)), _, _, rfl, rfl, _, rfl, ?_⟩
    rw [decide_eq_true (show (1 : Int) ≤ (xs.length : Nat) by omega)]
    refine iteT ⟨_, _, rfl, rfl, _, rfl, ?_⟩
    rw [decide_eq_true (show ((xs.length : Nat) : Int) ≤ 6 by omega)]
    refine iteF ?_
    refine ⟨_, rfl, a, rfl, ⟨_, SqL.of (s1 _ _ g1)⟩, fun D hD => ?_⟩
    refine lc_list (K := K) (a := a) (xs := xs) (fun j H3 => Same H H3 ∧ H3 D = some (.lst ((List.replicate j true).map V.bl))) ⟨s1.trans (Same.new hD), upd_same⟩ (fun j H3 _ ⟨e, _⟩ => SqL.of (e _ _ g1)) ?_ ?_
    · rintro j y H3 hj ⟨e3, h3⟩
      obtain ⟨es, he, x0, dx, ea, fa, la, rfl, c1, c2⟩ := Paired.at2 g2 hj
      have hjl := (List.getElem?_eq_some_iff.mp hj).1
      refine ⟨rfl, ?_⟩
      refine ⟨_, rfl, x0, dx, _, rfl, e3 _ _ c1, ?_⟩
      refine ⟨_, h3, by rw [List.length_map, List.length_replicate]; exact szl _ (by omega), Same.mut e3 (s1.free hD), ?_⟩
      rw [upd_same, List.replicate_succ', List.map_append]
      rfl
    rintro H3 ⟨e3, h3⟩
    refine ⟨D, _, rfl, SqL.of h3, _, rfl, ?_⟩
    have hall : (List.replicate xs.length true).all id = true := by simp
    rw [hall]
    refine iteF ?_
    refine ⟨_, rfl, a, rfl, ⟨_, SqL.of (e3 _ _ g1)⟩, fun D2 hD2 => ?_⟩
    refine sc_it (D0 := fun D => SetTO P w D []) (add := addT K P w) (walk_list (K := K) (a := a) (xs := xs)) (fun j H4 => Same H H4 ∧ ∃ L, H4 D2 = some (SetTO P w D2 L) ∧ L.length ≤ 1 ∧ ∀ q ∈ L, q.2 = [(n : Int), m] ∧ SqT K H4 q.1 (q.2.map V.int)) ⟨e3.trans (Same.new hD2), [], upd_same, Nat.zero_le _, fun _ h => nomatch h⟩ (fun j H4 _ ⟨e, _⟩ => SqL.of (e _ _ g1)) ?_ ?_
    · rintro j y Hx H4 hj ⟨e4, L, h4, hL, hq⟩ ⟨rfl, hy⟩
      obtain ⟨es, he, x0, dx, ea, fa, la, rfl, c1, c2⟩ := Paired.at2 g2 hy
      refine ⟨rfl, ?_⟩
      have hWy : WebR T.Web n m H4 (.ref x0) es := ⟨x0, dx, ea, fa, la, rfl, e4 _ _ c1, c2.same m_Pair e4⟩
      refine ⟨_, rfl, x0, dx, _, rfl, e4 _ _ c1, rfl, _, n, m, es, rfl, hWy, ?_⟩
      refine ⟨_, rfl, x0, dx, _, rfl, e4 _ _ c1, rfl, _, n, m, es, rfl, hWy, (by show 2 ≤ sizeLine; decide), fun t ht => ?_⟩
      have n1 : Same H4 (upd H4 t (.tup [.int n, .int m])) := Same.new ht
      have ne : t ≠ D2 := (ne_of_none h4 ht).symm
      refine ⟨t, [(n : Int), m], L, rfl, SqT.of upd_same, n1 _ _ h4, fun q hq' => SqT.same (hq q hq').2 n1, by omega, fun L' i1 i2 => ?_⟩
      refine ⟨Same.mut (e4.trans n1) ((e3.free hD2)), L', upd_same, ?_, ?_⟩
      · by_cases c : [(n : Int), m] ∈ L.map (·.2)
        · rw [i1 c]; exact hL
        · have e0 : L = [] := by
            cases L with
            | nil => rfl
            | cons q r => exact absurd (List.mem_map.mpr ⟨q, List.mem_cons_self, (hq q List.mem_cons_self).1⟩) c
          rw [(i2 c).length_eq, e0]
          exact Nat.le_refl _
      · have old : ∀ q ∈ (t, [(n : Int), m]) :: L, q.2 = [(n : Int), m] ∧ SqT K (upd (upd H4 t (.tup [.int n, .int m])) D2 (SetTO P w D2 L')) q.1 (q.2.map V.int) := by
          intro q hq'
          have st : Same (Del H4 D2) (upd (upd H4 t (.tup [.int n, .int m])) D2 (SetTO P w D2 L')) := Same.mut ((Del.same H4 D2).trans n1) (Del.none H4 D2)
          rcases List.mem_cons.mp hq' with rfl | hq'
          · exact ⟨rfl, SqT.of (by rw [upd_ne ne]; exact upd_same)⟩
          · refine ⟨(hq q hq').1, ?_⟩
            have z := (hq q hq').2
            refine SqT.same ?_ st
            rcases z with (z | ⟨o, z⟩) | z
            · exact .inl (.inl (by rw [Del.at_ (ne_of z h4 fun q => nomatch q)]; exact z))
            · exact .inl (.inr ⟨o, by rw [Del.at_ (ne_of z h4 fun q => nomatch q)]; exact z⟩)
            · exact .inr z
        intro q hq'
        by_cases c : [(n : Int), m] ∈ L.map (·.2)
        · rw [i1 c] at hq'
          exact old q (List.mem_cons_of_mem _ hq')
        · exact old q ((i2 c).mem_iff.mp hq')
    rintro H4 ⟨e4, L, h4, hL, hq⟩
    refine ⟨_, L, rfl, h4, by omega, _, _, rfl, rfl, _, rfl, ?_⟩
    refine ite2 (fun c => ?_) (fun _ => k _ e4)
    have c := of_decide_eq_true c
    omega
/-- the gains of the webs -/
def GainsOk (m : Int) (webs : List Es) (gss : List (List Int)) : Prop := Paired (fun (es : Es) (gs : List Int) => gs.length = es.length ∧ ∀ g ∈ gs, Res m g) webs gss
def sp_check_all_gains (C : Addr) : Sp := fun vs H Q _ => ∃ (a b : Addr) (n : Nat) (m : Int) (webs : List Es) (gss : List (List Int)), vs = [.ref a, .ref b] ∧ ListAt (WebR C n m) H a webs ∧ ListAt (LstR IntR) H b gss ∧ GainsOk m webs gss ∧ ModOk m ∧ (∀ es ∈ webs, es.length ≤ 60) ∧ ∀ H', Same H H' → Q .non H'
theorem ok_check_all_gains (T : Tx K mg) : FnOk P w K mg base CX0 7 T.check_all_gains.f T.check_all_gains.fd N_check_all_gains_ps (sp_check_all_gains T.Web) := by
  have G_check_gains := ok_check_gains (P := P) (w := w) (base := base) T
  refine T.check_all_gains.F.ok sc_check_all_gains (fun vs H Q E h => ?_) (fun cdv A outer s H vs Q E hr h => ?_)
  · obtain ⟨a, b, n, m, webs, gss, rfl, ha, hb, hg, hm, h60, k⟩ := h
    rfl
  · obtain ⟨a, b, n, m, webs, gss, rfl, ha, hb, hg, hm, h60, k⟩ := h
    have hu := hu_of hr
    refine ⟨_, PSs.nox (pss_cons (ps_if (PW.pt (pw_or (pt_not (pt_val (pe_callB call_isiT (by rfl) T.n_isinstance (by decide +kernel) (pa_cons (pv 1) (pa_cons (pe_tup (pa_cons (pe_bltn (v := .ty "list") (by rfl) T.n_list (by decide +kernel) rfl) (pa_cons (pe_bltn (v := .ty "tuple") (by rfl) T.n_tuple (by decide +kernel) rfl) pa_nil))) pa_nil))))) (pw_or1 (pt_cmpR op_ne (pe_callB call_len_seq (by rfl) T.n_len (by decide +kernel) (pa_cons (pv 1) pa_nil)) (pe_callB call_len_seq (by rfl) T.n_len (by decide +kernel) (pa_cons (pv 0) pa_nil)) (nomark _))))) (pss_one ps_never) pss_nil)
      (pss_one (ps_for PassesOwn.never rfl (pi_zipS (by rfl) T.n_zip (pa_cons (pv 0) (pa_cons (pv 1) pa_nil))) (pg_tup rfl (pgs_cons (pg_name (i := 2) sc_check_all_gains.nd rfl (by first | exact Or.inl rfl | exact Or.inr rfl)) (pgs_cons (pg_name (i := 3) sc_check_all_gains.nd rfl (by first | exact Or.inl rfl | exact Or.inr rfl)) pgs_nil)))
        (pss_one (ps_expr (pe_call G_check_gains (hr.mono (by decide)) rfl T.check_gains.m T.check_gains.F.kp T.check_gains.b .nil pass0 (pa_cons (pv 2) (pa_cons (pv 3) pa_nil)))))))), ?_⟩
    obtain ⟨xs, g1, g2⟩ := id ha
    obtain ⟨ys, b1, b2⟩ := id hb
    have hl := Paired.length g2
    have hl2 := Paired.length b2
    have hl3 := Paired.length hg
    refine ⟨_, rfl, (by show 2 ≤ sizeLine; decide), fun p hp => ?_⟩
    have s1 : Same H (upd H p (.tup [.ty "list", .ty "tuple"])) := Same.new hp
    refine ⟨_, _, _, _, _, true, rfl, upd_same, .cons (.ty _) (.cons (.ty _) .nil), .base (.lst (s1 _ _ b1)), kitAny_cons (kit_ty (r := true) (by decide +kernel)) (fun z => nomatch z) (fun _ => rfl), _, rfl, iteF ?_⟩
    refine ⟨_, rfl, _, _, rfl, .inl (SqL.of (s1 _ _ b1)), _, rfl, _, _, rfl, .inl (SqL.of (s1 _ _ g1)), rfl, _, rfl, iteNS (by rw [hl, hl2, hl3]) ?_⟩
    refine ⟨_, rfl, _, rfl, a, b, xs, ys, rfl, SqL.of (s1 _ _ g1), SqL.of (s1 _ _ b1), for_it (walk_zipS (K := K) (a := a) (b := b) (xs := xs) (ys := ys) (by rw [hl, hl2, hl3])) (fun i σ H2 => ∃ (u v : Option V), σ = [some (.ref a), some (.ref b), u, v] ∧ Same H H2) ⟨_, _, rfl, s1⟩ (fun i σ H2 _ ⟨_, _, _, e⟩ => ⟨SqL.of (e _ _ g1), SqL.of (e _ _ b1)⟩) ?_ ?_⟩
    · rintro i x1 σ H2 H3 hi ⟨u, v, rfl, e2⟩ ⟨T0, p1, p2, rfl, hT0, rfl, hp1, hp2⟩
      obtain ⟨es, he, hW⟩ := Paired.at2 g2 hp1
      obtain ⟨gs, hgs, g0, rfl, hg0⟩ := Paired.at2 b2 hp2
      have n1 : Same H2 (upd H2 T0 (.tup [p1, .ref g0])) := Same.new hT0
      have e3 := e2.trans n1
      obtain ⟨es', he', q1, q2⟩ := Paired.at_ hg hgs
      rw [he] at he'
      cases he'
      have := h60 es (List.mem_of_getElem? he)
      refine ⟨T0, _, rfl, SqT.of upd_same, rfl, _, _, rfl, _, _, rfl, rfl, ?_⟩
      exact ⟨_, rfl, _, rfl, p1, g0, gs, n, m, es, rfl, m_Web _ _ _ _ e3 hW, hm, ⟨e3 _ _ hg0.ints, q2⟩, q1, by omega, fun H' e' => ⟨_, _, rfl, e3.trans e'⟩⟩
    · rintro σ H2 ⟨u, v, rfl, e2⟩
      exact k _ e2
end
end Tt
end
section
set_option maxHeartbeats 4000000
namespace Tt
open PySem PySem.Spec PyProof.Rows L2
/-! ### a list grows, the others stay -/
def KdL {α : Type} (R : Rel α) : Prop := ∀ (H : Hp) (x : Addr) (zs : List V) (v : V) (y : α), H x = some (.lst zs) → R H v y → R (Del H x) v y
theorem TupAt.delL {H : Hp} {x : Addr} {zs : List V} {v : V} {ys : List V} (hx : H x = some (.lst zs)) (h : TupAt H v ys) : TupAt (Del H x) v ys := by
  obtain ⟨t, rfl, h⟩ := h
  exact ⟨t, rfl, by rw [Del.at_ (ne_of h hx fun z => nomatch z)]; exact h⟩
theorem kl_Pair : KdL PairR := fun _ _ _ _ _ hx h => TupAt.delL hx h
theorem kl_Row : KdL RowR := fun _ _ _ _ _ hx h => TupAt.delL hx h
theorem kl_Step : KdL StepR := fun _ _ _ _ _ hx h => TupAt.delL hx h
theorem kl_Int : KdL IntR := fun _ _ _ _ _ _ h => h
theorem list_push {α : Type} {R : Rel α} (m : Mono R) (kl : KdL R) {H : Hp} {p : Addr} {zs : List V} {l : List α} {v : V} {y : α} (h : H p = some (.lst zs)) (hp : Paired (R H) zs l) (hv : R H v y) : ListAt R (upd H p (.lst (zs ++ [v]))) p (l ++ [y]) := by
  have st : Same (Del H p) (upd H p (.lst (zs ++ [v]))) := Same.mut (Del.same H p) (Del.none H p)
  exact ⟨_, upd_same, Paired.snoc (Paired.mapP hp fun v y q => m _ _ v y st (kl H p zs v y h q)) (m _ _ v y st (kl H p zs v y h hv))⟩
theorem list_other {α : Type} {R : Rel α} (m : Mono R) (kl : KdL R) {H : Hp} {p q : Addr} {zs : List V} {l : List α} {o : HO} (h : H p = some (.lst zs)) (hq : q ≠ p) (hl : ListAt R H q l) : ListAt R (upd H p o) q l := by
  have st : Same (Del H p) (upd H p o) := Same.mut (Del.same H p) (Del.none H p)
  obtain ⟨xs, h1, h2⟩ := hl
  exact ⟨xs, by rw [upd_ne hq]; exact h1, Paired.mapP h2 fun v y z => m _ _ v y st (kl H p zs v y h z)⟩
theorem GainsOk.lens {m : Int} {webs : List Es} {bs as : List (List Int)} (h1 : GainsOk m webs bs) (h2 : GainsOk m webs as) : LenOk webs bs as := by
  refine ⟨(Paired.length h1).symm, (Paired.length h2).symm, fun k es b e1 e2 => ?_, fun k es b e1 e2 => ?_⟩
  · obtain ⟨b', e3, e4, _⟩ := Paired.at2 h1 e1
    rw [e2] at e3
    cases e3
    exact e4
  · obtain ⟨b', e3, e4, _⟩ := Paired.at2 h2 e1
    rw [e2] at e3
    cases e3
    exact e4
/-- what transform_all says -/
def TAns (n : Nat) (m : Int) (rows : List Rw) (pl : List (Nat × Nat)) (H H' : Hp) (t : Addr) : Prop :=
  Same H H' ∧ ((∃ (fa : Addr) (f : List Int), H' t = some (.tup [.str "potential", .ref fa]) ∧ H' fa = some (.lst (f.map V.int)) ∧ f.length = n ∧ (∀ x ∈ f, Res m x) ∧ Sol m rows (fn f)) ∨
    ∃ (wa : Addr) (W : Pt) (js : List Rw), H' t = some (.tup [.str "cycle", .ref wa]) ∧ ListAt RowR H' wa js ∧ Excl m rows W ∧ Paired (fun (s : Nat × Int) (j : Rw) => ∃ p, pl[s.1]? = some p ∧ j = (p.1, p.2, s.2)) W js ∧ W.length ≤ 31)
section
variable {P : Program} {w : World} {K : PySem.W.Frag} {mg : Str → Option Value} {base : Heap}
def sp_transform_all (K : PySem.W.Frag) (C : Addr) : Sp := fun vs H Q _ => ∃ (a b c t : Addr) (n : Nat) (m : Int) (webs : List Es) (bs as : List (List Int)), vs = [.ref a, .ref b, .ref c, .ref t] ∧ ListAt (WebR C n m) H a webs ∧ ListAt (LstR IntR) H b bs ∧ ListAt (LstR IntR) H c as ∧
  GainsOk m webs bs ∧ GainsOk m webs as ∧ ModOk m ∧ 1 ≤ webs.length ∧ webs.length ≤ 6 ∧ (∀ es ∈ webs, es.length ≤ 60 ∧ EdOk n es) ∧ n ≤ 30 ∧ EmptyT K t ∧
  ∀ H' r, TAns n m (rowsL webs bs as).flatten (plcL webs).flatten H H' r → Q (.ref r) H'
theorem ok_transform_all (T : Tx K mg) : FnOk P w K mg base CX0 8 T.transform_all_f T.transform_all_fd N_transform_all_ps (sp_transform_all K T.Web) := by
  have G_System_init := ok_System_init (P := P) (w := w) (base := base) T
  have G_System_solved := ok_System_solved (P := P) (w := w) (base := base) T
  have G_Web_edges := ok_Web_edges (P := P) (w := w) (base := base) T
  have G_Web_modulus := ok_Web_modulus (P := P) (w := w) (base := base) T
  have G_Web_size := ok_Web_size (P := P) (w := w) (base := base) T
  have G_check_all_gains := ok_check_all_gains (P := P) (w := w) (base := base) T
  have G_check_fixed := ok_check_fixed (P := P) (w := w) (base := base) T
  have G_check_webs := ok_check_webs (P := P) (w := w) (base := base) T
  refine T.transform_all_F.ok sc_transform_all (fun vs H Q E h => ?_) (fun cdv A outer s H vs Q E hr h => ?_)
  · obtain ⟨a, b, c, t, n, m, webs, bs, as, rfl, ha, hb, hc, hgb, hgc, hm, h1, h6, hes, hn, hT, k⟩ := h
    rfl
  · obtain ⟨a, b, c, t, n, m, webs, bs, as, rfl, ha, hb, hc, hgb, hgc, hm, h1, h6, hes, hn, hT, k⟩ := h
    have hu := hu_of hr
    refine ⟨_, PSs.nox (pss_cons (ps_expr (pe_call G_check_webs (hr.mono (by decide)) rfl T.check_webs.m T.check_webs.F.kp T.check_webs.b .nil pass0 (pa_cons (pv 0) pa_nil)))
      (pss_cons (ps_expr (pe_call G_check_all_gains (hr.mono (by decide)) rfl T.check_all_gains.m T.check_all_gains.F.kp T.check_all_gains.b .nil pass0 (pa_cons (pv 0) (pa_cons (pv 1) pa_nil))))
      (pss_cons (ps_expr (pe_call G_check_all_gains (hr.mono (by decide)) rfl T.check_all_gains.m T.check_all_gains.F.kp T.check_all_gains.b .nil pass0 (pa_cons (pv 0) (pa_cons (pv 2) pa_nil))))
      (pss_cons (ps_expr (pe_call G_check_fixed (hr.mono (by decide)) rfl T.check_fixed.m T.check_fixed.F.kp T.check_fixed.b .nil pass0 (pa_cons (pe_ix ix_list (pv 0) pe_int (fun _ _ => rfl)) (pa_cons (pv 3) pa_nil))))
      (pss_cons (ps_asg (pe_tup (pa_cons (pe_lst pa_nil) (pa_cons (pe_lst pa_nil) pa_nil))) (pg_tup rfl (pgs_cons (pg_name (i := 4) sc_transform_all.nd rfl (by first | exact Or.inl rfl | exact Or.inr rfl)) (pgs_cons (pg_name (i := 5) sc_transform_all.nd rfl (by first | exact Or.inl rfl | exact Or.inr rfl)) pgs_nil))))
      (pss_cons (ps_for PassesOwn.never rfl (pi_enum (by rfl) T.n_enumerate (pa_cons (pv 0) pa_nil)) (pg_tup rfl (pgs_cons (pg_name (i := 6) sc_transform_all.nd rfl (by first | exact Or.inl rfl | exact Or.inr rfl)) (pgs_cons (pg_name (i := 7) sc_transform_all.nd rfl (by first | exact Or.inl rfl | exact Or.inr rfl)) pgs_nil)))
        (pss_one (ps_for PassesOwn.never rfl (pi_enum (by rfl) T.n_enumerate (pa_cons (pe_meth0 (pv 7) T.cl_Web T.Web_edges.m G_Web_edges (hr.mono (by decide)) T.Web_edges.b .nil pass0) pa_nil)) (pg_tup rfl (pgs_cons (pg_name (i := 8) sc_transform_all.nd rfl (by first | exact Or.inl rfl | exact Or.inr rfl)) (pgs_cons (pg_name (i := 9) sc_transform_all.nd rfl (by first | exact Or.inl rfl | exact Or.inr rfl)) pgs_nil)))
          (pss_cons (ps_expr (pe_bm PySem.F.plainAttrs_list PySem.F.slot_list_append PySem.F.type_list_append mt_append (pv 4) (pa_cons (pe_op op_catT (pv 9) (pe_tup (pa_cons (pe_op op_sub (pe_ix ix_list (pe_ix ix_list (pv 2) (pv 6) (fun _ _ => rfl)) (pv 8) (fun _ _ => rfl)) (pe_ix ix_list (pe_ix ix_list (pv 1) (pv 6) (fun _ _ => rfl)) (pv 8) (fun _ _ => rfl))) pa_nil))) pa_nil)))
          (pss_one (ps_expr (pe_bm PySem.F.plainAttrs_list PySem.F.slot_list_append PySem.F.type_list_append mt_append (pv 5) (pa_cons (pe_tup (pa_cons (pv 6) (pa_cons (pv 8) pa_nil))) pa_nil))))))))
      (pss_cons (ps_asg (pe_meth (pe_make T.mk_System G_System_init (hr.mono (by decide)) rfl T.g_System T.System_init.b .nil pass0 (pa_cons (pe_meth0 (pe_ix ix_list (pv 0) pe_int (fun _ _ => rfl)) T.cl_Web T.Web_size.m G_Web_size (hr.mono (by decide)) T.Web_size.b .nil pass0) (pa_cons (pe_meth0 (pe_ix ix_list (pv 0) pe_int (fun _ _ => rfl)) T.cl_Web T.Web_modulus.m G_Web_modulus (hr.mono (by decide)) T.Web_modulus.b .nil pass0) (pa_cons (pv 4) pa_nil)))) T.cl_System T.System_solved.m G_System_solved (hr.mono (by decide)) T.System_solved.b .nil pass0 (pa_cons (pv 3) pa_nil)) (pg_tup rfl (pgs_cons (pg_name (i := 10) sc_transform_all.nd rfl (by first | exact Or.inl rfl | exact Or.inr rfl)) (pgs_cons (pg_name (i := 11) sc_transform_all.nd rfl (by first | exact Or.inl rfl | exact Or.inr rfl)) pgs_nil))))
      (pss_cons (ps_if (pt_cmpR op_eq (pv 10) pe_str (nomark _)) (pss_one (ps_ret (pe_tup (pa_cons (pv 10) (pa_cons (pv 11) pa_nil))))) pss_nil)
      (pss_one (ps_ret (pe_tup (pa_cons (pv 10) (pa_cons (pe_lc (own := [("index", 12), ("way", 13)]) (tt := tYes) rfl sc_transform_all.nd (pi_list (pv 11)) (blkOk_by (N := N_transform_all) (sc := defScope (top 51)) (by decide +kernel)) (fun _ _ _ _ _ => (pg_tupB (K := K) (n := 2) rfl rfl (pgs_cons (pg_name (i := 12) sc_transform_all.nd rfl (by first | exact Or.inl rfl | exact Or.inr rfl)) (pgs_cons (pg_name (i := 13) sc_transform_all.nd rfl (by first | exact Or.inl rfl | exact Or.inr rfl)) pgs_nil)))) (fun _ _ _ _ _ => pts_nil) (fun _ _ _ _ _ => (pe_op (op_catTB (K := K) rfl) (pe_ix (ix_listB (K := K) rfl) (pv 5) (pv 12) (fun _ _ => rfl)) (pe_tup (pa_cons (pv 13) pa_nil))))) pa_nil))))))))))))), ?_⟩
    have LO := GainsOk.lens hgb hgc
    have h60 : ∀ es ∈ webs, es.length ≤ 60 := fun es h => (hes es h).1
    refine ⟨_, rfl, a, n, m, webs, rfl, ha, h1, h6, fun H1 e1 => ?_⟩
    refine ⟨_, rfl, _, rfl, a, b, n, m, webs, bs, rfl, ha.same m_Web e1, hb.same (m_Lst m_Int) e1, hgb, hm, h60, fun H2 e2 => ?_⟩
    have e02 := e1.trans e2
    refine ⟨_, rfl, _, rfl, a, c, n, m, webs, as, rfl, ha.same m_Web e02, hc.same (m_Lst m_Int) e02, hgc, hm, h60, fun H3 e3 => ?_⟩
    have e03 := e02.trans e3
    obtain ⟨es0, hes0⟩ : ∃ es0, webs[0]? = some es0 := ⟨_, List.getElem?_eq_getElem (by omega)⟩
    obtain ⟨xs, g1, g2⟩ := id ha
    obtain ⟨x0v, hx0, hW0⟩ := Paired.at_ g2 hes0
    refine ⟨_, rfl, a, _, _, _, rfl, rfl, SqL.of (e03 _ _ g1), atI_nat (j := 0) hx0, _, rfl, x0v, t, n, m, es0, rfl, m_Web _ _ _ _ e03 hW0, hT, fun H4 e4 => ?_⟩
    have e04 := e03.trans e4
    refine ⟨Nat.zero_le _, fun ra hra => ⟨Nat.zero_le _, fun pa hpa => ⟨(by show 2 ≤ sizeLine; decide), fun T1 hT1 => ?_⟩⟩⟩
    have s1 : Same H4 (upd H4 ra (.lst [])) := Same.new hra
    have s2 : Same (upd H4 ra (.lst [])) (upd (upd H4 ra (.lst [])) pa (.lst [])) := Same.new hpa
    have s3 : Same (upd (upd H4 ra (.lst [])) pa (.lst [])) (upd (upd (upd H4 ra (.lst [])) pa (.lst [])) T1 (.tup [.ref ra, .ref pa])) := Same.new hT1
    have hra0 : H ra = none := e04.free hra
    have hpa0 : H pa = none := (e04.trans s1).free hpa
    have hrp : ra ≠ pa := ne_of_none (H := upd H4 ra (.lst [])) upd_same hpa
    have e5 := e04.trans (s1.trans (s2.trans s3))
    have hra5 : ListAt RowR (upd (upd (upd H4 ra (.lst [])) pa (.lst [])) T1 (.tup [.ref ra, .ref pa])) ra [] := ⟨[], s3 _ _ (s2 _ _ upd_same), .nil⟩
    have hpa5 : ListAt PairR (upd (upd (upd H4 ra (.lst [])) pa (.lst [])) T1 (.tup [.ref ra, .ref pa])) pa [] := ⟨[], s3 _ _ upd_same, .nil⟩
    refine ⟨T1, _, rfl, SqT.of upd_same, rfl, _, _, rfl, _, _, rfl, rfl, ?_⟩
    generalize upd (upd (upd H4 ra (.lst [])) pa (.lst [])) T1 (.tup [.ref ra, .ref pa]) = H5 at e5 hra5 hpa5
    have hxl := Paired.length g2
    obtain ⟨bs', b1, b2⟩ := id hb
    obtain ⟨as', c1, c2⟩ := id hc
    have rl60 : ∀ l ∈ rowsL webs bs as, l.length ≤ 60 := fun l hl => by
      obtain ⟨i, hi⟩ := List.getElem?_of_mem hl
      have hk : i < webs.length := by rw [← LO.rlen]; exact (List.getElem?_eq_some_iff.mp hi).1
      obtain ⟨b', a', _, _, q1, q2, q3⟩ := LO.at_ (List.getElem?_eq_getElem hk)
      rw [hi] at q3
      cases q3
      rw [rowsW_len q1 q2]
      exact h60 _ (List.getElem_mem hk)
    refine ⟨_, rfl, a, _, rfl, SqL.of (e5 _ _ g1), for_it (walk_enum (K := K) (a := a) (xs := xs)) (fun i σ H6 => ∃ (u6 u7 u8 u9 u10 u11 u12 u13 : Option V), σ = [some (.ref a), some (.ref b), some (.ref c), some (.ref t), some (.ref ra), some (.ref pa), u6, u7, u8, u9, u10, u11, u12, u13] ∧ Same H H6 ∧
        ListAt RowR H6 ra ((rowsL webs bs as).take i).flatten ∧ ListAt PairR H6 pa ((plcL webs).take i).flatten)
      ⟨none, none, none, none, none, none, none, none, rfl, e5, hra5, hpa5⟩ (fun i σ H6 _ ⟨_, _, _, _, _, _, _, _, _, e, _⟩ => SqL.of (e _ _ g1)) ?_ ?_⟩
    · rintro i x1 σ H6 H7 hi ⟨u6, u7, u8, u9, u10, u11, u12, u13, rfl, e6, hr6, hp6⟩ ⟨T0, p1, p2, rfl, hT0, rfl, hp1, hp2⟩
      cases hp1
      obtain ⟨es, he, hW⟩ := Paired.at2 g2 hp2
      obtain ⟨bb, aa, hbb, haa, lb, la, hRi⟩ := LO.at_ he
      have hPi := plcL_at he
      obtain ⟨bv, hbv, b0, rfl, hb0⟩ := Paired.at_ b2 hbb
      obtain ⟨av, hav, a0, rfl, ha0⟩ := Paired.at_ c2 haa
      have hb0 := hb0.ints
      have ha0 := ha0.ints
      have n1 : Same H6 (upd H6 T0 (.tup [.int (i : Nat), p2])) := Same.new hT0
      have hr7 := hr6.same m_Row n1
      have hp7 := hp6.same m_Pair n1
      have e7 := e6.trans n1
      refine ⟨T0, _, rfl, SqT.of upd_same, rfl, _, _, rfl, _, _, rfl, rfl, ?_⟩
      generalize upd H6 T0 (.tup [.int (i : Nat), p2]) = H7 at e7 hr7 hp7
      have hW7 := m_Web _ _ _ _ e7 hW
      obtain ⟨x0, dx, ea, fa, la0, rfl, w1, w2⟩ := id hW7
      refine ⟨_, rfl, x0, dx, _, rfl, w1, rfl, _, n, m, es, rfl, hW7, fun H8 ev e8 hevf hev => ?_⟩
      obtain ⟨ys, v1, v2⟩ := id hev
      have hyl := Paired.length v2
      have e08 := e7.trans e8
      refine ⟨ev, _, rfl, SqL.of v1, for_it (walk_enum (K := K) (a := ev) (xs := ys)) (fun j σ H9 => ∃ (u8 u9 u10 u11 u12 u13 : Option V), σ = [some (.ref a), some (.ref b), some (.ref c), some (.ref t), some (.ref ra), some (.ref pa), some (.int (i : Nat)), some (.ref x0), u8, u9, u10, u11, u12, u13] ∧ Same H H9 ∧ ListAt PairR H9 ev es ∧ H9 ev = some (.lst ys) ∧ ev ≠ ra ∧ ev ≠ pa ∧
          ListAt RowR H9 ra (((rowsL webs bs as).take i).flatten ++ (rowsW es bb aa).take j) ∧ ListAt PairR H9 pa (((plcL webs).take i).flatten ++ ((List.range es.length).map fun j => (i, j)).take j))
        ⟨u8, u9, u10, u11, u12, u13, rfl, e08, hev, v1, ?_, ?_, ?_, ?_⟩ (fun j σ H9 _ ⟨_, _, _, _, _, _, _, _, _, e, _⟩ => SqL.of e) ?_ ?_⟩
      · rintro rfl
        obtain ⟨_, z, _⟩ := hr7
        rw [hevf] at z
        cases z
      · rintro rfl
        obtain ⟨_, z, _⟩ := hp7
        rw [hevf] at z
        cases z
      · rw [List.take_zero, List.append_nil]; exact hr7.same m_Row e8
      · rw [List.take_zero, List.append_nil]; exact hp7.same m_Pair e8
      · rintro j y1 σ H9 H10 hj ⟨u8, u9, u10, u11, u12, u13, rfl, e9, hev9, hv9, ner, nep, hr9, hp9⟩ ⟨T2, p3, p4, rfl, hT2, rfl, hp3, hp4⟩
        cases hp3
        obtain ⟨zs9, hz9, hz9'⟩ := id hev9
        rw [hv9] at hz9
        cases hz9
        obtain ⟨⟨tl, hd⟩, hedge, t2, rfl, ht2⟩ := Paired.at2 hz9' hp4
        have hjl := (List.getElem?_eq_some_iff.mp hedge).1
        have n2 : Same H9 (upd H9 T2 (.tup [.int (j : Nat), .ref t2])) := Same.new hT2
        have hr10 := hr9.same m_Row n2
        have hp10 := hp9.same m_Pair n2
        have hv10 := n2 _ _ hv9
        have hev10 := hev9.same m_Pair n2
        have ht10 := n2 _ _ ht2
        have e10 := e9.trans n2
        refine ⟨T2, _, rfl, SqT.of upd_same, rfl, _, _, rfl, _, _, rfl, rfl, ?_⟩
        generalize upd H9 T2 (.tup [.int (j : Nat), .ref t2]) = H10 at e10 hr10 hp10 hv10 hev10 ht10
        obtain ⟨zr, r1, r2⟩ := id hr10
        obtain ⟨zp, p1', p2'⟩ := id hp10
        obtain ⟨gx, hgx⟩ : ∃ gx, bb[j]? = some gx := ⟨_, List.getElem?_eq_getElem (by omega)⟩
        obtain ⟨gy, hgy⟩ : ∃ gy, aa[j]? = some gy := ⟨_, List.getElem?_eq_getElem (by omega)⟩
        have hrow := rowsW_at hedge hgx hgy
        have hplc := plc_at (i := i) hjl
        refine ⟨_, rfl, .inl ⟨rfl, _, SqL.of r1⟩, ?_⟩
        refine ⟨_, rfl, _, rfl, _, rfl, c, _, _, _, rfl, rfl, SqL.of (e10 _ _ c1), atI_nat hav, _, rfl, a0, _, _, _, rfl, rfl, SqL.of (e10 _ _ ha0), ints_at2 hgy, ?_⟩
        refine ⟨_, rfl, _, rfl, b, _, _, _, rfl, rfl, SqL.of (e10 _ _ b1), atI_nat hbv, _, rfl, b0, _, _, _, rfl, rfl, SqL.of (e10 _ _ hb0), ints_at2 hgx, _, _, rfl, rfl, (by show 1 ≤ sizeLine; decide), fun q hq => ?_⟩
        have n3 : Same H10 (upd H10 q (.tup [.int (gy - gx)])) := Same.new hq
        refine ⟨t2, q, _, _, rfl, rfl, SqT.of (n3 _ _ ht10), SqT.of upd_same, (fun z => nomatch z), (by show 3 ≤ sizeLine; decide), (fun z => nomatch z), fun _ p hp => ?_⟩
        have n4 : Same (upd H10 q (.tup [.int (gy - gx)])) (upd (upd H10 q (.tup [.int (gy - gx)])) p (.tup ([.int tl, .int hd] ++ [.int (gy - gx)]))) := Same.new hp
        have n34 := n3.trans n4
        have hp11 : RowR (upd (upd H10 q (.tup [.int (gy - gx)])) p (.tup ([.int tl, .int hd] ++ [.int (gy - gx)]))) (.ref p) (tl, hd, gy - gx) := ⟨p, rfl, upd_same⟩
        have r1' := n34 _ _ r1
        have r2'' := Paired.mono m_Row n34 r2
        have hp11' := hp10.same m_Pair n34
        have hev11 := hev10.same m_Pair n34
        have hv11 := n34 _ _ hv10
        have e11 := e10.trans n34
        generalize upd (upd H10 q (.tup [.int (gy - gx)])) p (.tup ([.int tl, .int hd] ++ [.int (gy - gx)])) = H11 at hp11 r1' r2'' hp11' hev11 hv11 e11
        have hrlen : zr.length < 100000 := by
          rw [Paired.length r2, List.length_append, List.length_take, rowsW_len lb la]
          have := flat_le rl60 i
          have := h60 es (List.mem_of_getElem? he)
          have : i ≤ 6 := by omega
          omega
        refine ⟨ra, _, _, rfl, rfl, r1', szl _ hrlen, ?_⟩
        have hr12 := list_push m_Row kl_Row r1' r2'' hp11
        have hp12 : ListAt PairR (upd H11 ra (.lst (zr ++ [.ref p]))) pa _ := list_other m_Pair kl_Pair r1' hrp.symm hp11'
        have hev12 : ListAt PairR (upd H11 ra (.lst (zr ++ [.ref p]))) ev es := list_other m_Pair kl_Pair r1' ner hev11
        have hv12 : upd H11 ra (.lst (zr ++ [.ref p])) ev = some (.lst ys) := by rw [upd_ne ner]; exact hv11
        have e12 : Same H (upd H11 ra (.lst (zr ++ [.ref p]))) := Same.mut e11 hra0
        rw [List.append_assoc, ← take1 hrow] at hr12
        generalize upd H11 ra (.lst (zr ++ [.ref p])) = H12 at hr12 hp12 hev12 hv12 e12
        obtain ⟨zq, p3', p4'⟩ := id hp12
        refine ⟨_, rfl, .inl ⟨rfl, _, SqL.of p3'⟩, ?_⟩
        refine ⟨_, rfl, _, rfl, (by show 2 ≤ sizeLine; decide), fun q2 hq2 => ?_⟩
        have n5 : Same H12 (upd H12 q2 (.tup [.int (i : Nat), .int (j : Nat)])) := Same.new hq2
        have hplen : zq.length < 100000 := by
          rw [Paired.length p4', List.length_append, List.length_take, List.length_map, List.length_range]
          have : ∀ l ∈ plcL webs, l.length ≤ 60 := fun l hl => by
            obtain ⟨k, hk⟩ := List.getElem?_of_mem hl
            have hk2 : k < webs.length := by
              have z := (List.getElem?_eq_some_iff.mp hk).1
              unfold plcL at z
              rw [List.length_mapIdx] at z
              exact z
            rw [plcL_at (List.getElem?_eq_getElem hk2)] at hk
            cases hk
            rw [List.length_map, List.length_range]
            exact h60 _ (List.getElem_mem hk2)
          have := flat_le this i
          have := h60 es (List.mem_of_getElem? he)
          have : i ≤ 6 := by omega
          omega
        refine ⟨pa, _, _, rfl, rfl, n5 _ _ p3', szl _ hplen, ?_⟩
        have hp13 := list_push m_Pair kl_Pair (n5 _ _ p3') (Paired.mono m_Pair n5 p4') (y := (i, j)) ⟨q2, rfl, upd_same⟩
        rw [List.append_assoc, ← take1 hplc] at hp13
        refine ⟨_, _, _, _, _, _, rfl, Same.mut (e12.trans n5) hpa0, list_other m_Pair kl_Pair (n5 _ _ p3') nep (hev12.same m_Pair n5), by rw [upd_ne nep]; exact n5 _ _ hv12, ner, nep, list_other m_Row kl_Row (n5 _ _ p3') hrp (hr12.same m_Row n5), hp13⟩
      · rintro σ H9 ⟨u8, u9, u10, u11, u12, u13, rfl, e9, hev9, hv9, ner, nep, hr9, hp9⟩
        have t1 : (rowsW es bb aa).take es.length = rowsW es bb aa := List.take_of_length_le (by rw [rowsW_len lb la]; exact Nat.le_refl _)
        have t2 : ((List.range es.length).map fun j => (i, j)).take es.length = (List.range es.length).map fun j => (i, j) := List.take_of_length_le (by rw [List.length_map, List.length_range]; exact Nat.le_refl _)
        rw [hyl, t1, ← take_flat hRi] at hr9
        rw [hyl, t2, ← take_flat hPi] at hp9
        exact ⟨_, _, _, _, _, _, _, _, rfl, e9, hr9, hp9⟩
    · rintro σ H6 ⟨u6, u7, u8, u9, u10, u11, u12, u13, rfl, e6, hr6, hp6⟩
      rw [hxl, List.take_of_length_le (by rw [LO.rlen]; exact Nat.le_refl _)] at hr6
      rw [hxl, List.take_of_length_le (by unfold plcL; rw [List.length_mapIdx]; exact Nat.le_refl _)] at hp6
      have hW6 := m_Web _ _ _ _ e6 hW0
      obtain ⟨x0, dx, ea, fa, la0, rfl, w1, w2⟩ := id hW6
      refine ⟨_, rfl, a, _, _, _, rfl, rfl, SqL.of (e6 _ _ g1), atI_nat (j := 0) hx0, x0, dx, _, rfl, w1, rfl, _, n, m, es0, rfl, hW6, ?_⟩
      refine ⟨_, rfl, a, _, _, _, rfl, rfl, SqL.of (e6 _ _ g1), atI_nat (j := 0) hx0, x0, dx, _, rfl, w1, rfl, _, n, m, es0, rfl, hW6, ?_⟩
      refine ⟨_, rfl, fun x dx' hx hdx hne => ?_⟩
      have hpsA := LO.psAll
      have hed : EdOk n (psOf (rowsL webs bs as).flatten) := by
        rw [hpsA]
        intro e he
        obtain ⟨es, h1, h2⟩ := List.mem_flatten.mp he
        exact (hes es h1).2 e h2
      have hrl : (rowsL webs bs as).flatten.length ≤ 1000 := by
        have := flat_le rl60 webs.length
        rw [List.take_of_length_le (by rw [LO.rlen]; exact Nat.le_refl _)] at this
        omega
      have n1 : Same H6 (upd H6 dx' (.own x)) := Same.new hdx
      have n2 : Same (upd H6 dx' (.own x)) (upd (upd H6 dx' (.own x)) x (.ins T.System dx' [])) := Same.new (by rw [upd_ne hne.symm]; exact hx)
      have hr7 := (hr6.same m_Row n1).same m_Row n2
      have hp7 := (hp6.same m_Pair n1).same m_Pair n2
      refine ⟨x, dx', ra, n, m, _, rfl, upd_same, hr7, hed, hn, hrl, hm, fun H7 F eS SA SN => ⟨rfl, ?_⟩⟩
      have e67 : Same H6 H7 := fun b o hb => eS b o (n2 _ _ (n1 _ _ hb)) (ne_of_none hb hx)
      obtain ⟨dxS, raS, laS, gaS, LsS, GS, S0⟩ := id SA
      refine ⟨x, dxS, _, rfl, S0.at_, rfl, _, rfl, x, t, n, m, _, F, rfl, hT.sqT _, SA, SN, fun H8 r ⟨e8, ans⟩ => ?_⟩
      have e08 := e6.trans (e67.trans e8)
      have hp8 : ListAt PairR H8 pa (plcL webs).flatten := (hp6.same m_Pair e67).same m_Pair e8
      rcases ans with ⟨fa, f, q1, q2, q3, q4, q5⟩ | ⟨wa, W, q1, q2, q3, q4, q5⟩
      · refine ⟨r, _, rfl, SqT.of q1, rfl, _, _, rfl, _, _, rfl, rfl, ?_⟩
        refine ⟨_, rfl, rfl, _, rfl, ?_⟩
        rw [decide_eq_true rfl]
        refine iteT ?_
        refine ⟨_, rfl, _, rfl, (by show 2 ≤ sizeLine; decide), fun z hz => ?_⟩
        have n9 : Same H8 (upd H8 z (.tup [.str "potential", .ref fa])) := Same.new hz
        exact k _ z ⟨e08.trans n9, .inl ⟨fa, f, upd_same, n9 _ _ q2, q3, q4, q5⟩⟩
      · refine ⟨r, _, rfl, SqT.of q1, rfl, _, _, rfl, _, _, rfl, rfl, ?_⟩
        refine ⟨_, rfl, rfl, _, rfl, ?_⟩
        rw [decide_eq_false (fun z => absurd (V.str.inj z) (by decide +kernel))]
        refine iteF ?_
        obtain ⟨ys, w1, w2⟩ := id q2
        have hyl := Paired.length w2
        refine ⟨_, rfl, _, rfl, wa, rfl, ⟨_, SqL.of w1⟩, fun D hD => ?_⟩
        refine lc_list (K := K) (a := wa) (xs := ys) (fun j H9 => Same H8 H9 ∧ ∃ js, ListAt RowR H9 D js ∧ Paired (fun (s : Nat × Int) (j : Rw) => ∃ p, (plcL webs).flatten[s.1]? = some p ∧ j = (p.1, p.2, s.2)) (W.take j) js) ⟨Same.new hD, [], ⟨[], upd_same, .nil⟩, .nil⟩ (fun j H9 _ ⟨e, _⟩ => SqL.of (e _ _ w1)) ?_ ?_
        · rintro j y H9 hj ⟨e9, js, hD9, hPj⟩
          obtain ⟨⟨ix, wy⟩, hWj, t2, rfl, ht2⟩ := Paired.at2 w2 hj
          have hjl := (List.getElem?_eq_some_iff.mp hWj).1
          have hix := q4 _ (List.mem_of_getElem? hWj)
          obtain ⟨kk, jj, _, _, es, _, _, _, _, z1, _, _, z2, _, _, z3, _⟩ := LO.inv hix
          have hpl : (plcL webs).flatten[ix]? = some (kk, jj) := by
            rw [show ix = place webs kk jj from z3]
            exact plc_place z1 (List.getElem?_eq_some_iff.mp z2).1
          obtain ⟨zp, p1, p2⟩ := hp8.same m_Pair e9
          obtain ⟨pv, hpv, t3, rfl, ht3⟩ := Paired.at_ p2 hpl
          refine ⟨t2, _, rfl, SqT.of (e9 _ _ ht2), rfl, _, _, rfl, _, _, rfl, rfl, rfl, ?_⟩
          refine ⟨_, rfl, _, rfl, pa, _, _, _, rfl, rfl, SqL.of p1, atI_nat hpv, ?_⟩
          refine ⟨_, rfl, (by show 1 ≤ sizeLine; decide), fun q hq => ?_⟩
          have n3 : Same H9 (upd H9 q (.tup [.int wy])) := Same.new hq
          refine ⟨t3, q, _, _, rfl, rfl, SqT.of (n3 _ _ ht3), SqT.of upd_same, (fun z => nomatch z), (by show 3 ≤ sizeLine; decide), (fun z => nomatch z), fun _ p hp => ?_⟩
          have n4 : Same (upd H9 q (.tup [.int wy])) (upd (upd H9 q (.tup [.int wy])) p (.tup ([.int kk, .int jj] ++ [.int wy]))) := Same.new hp
          have n34 := n3.trans n4
          obtain ⟨zd, d1, d2⟩ := id hD9
          have hrow : RowR (upd (upd H9 q (.tup [.int wy])) p (.tup ([.int kk, .int jj] ++ [.int wy]))) (.ref p) (kk, jj, wy) := ⟨p, rfl, upd_same⟩
          refine ⟨_, n34 _ _ d1, ?_, Same.mut (e9.trans n34) hD, js ++ [(kk, jj, wy)], list_push m_Row kl_Row (n34 _ _ d1) (Paired.mono m_Row n34 d2) hrow, ?_⟩
          · have z1 := Paired.length d2
            have z2 := Paired.length hPj
            rw [List.length_take] at z2
            exact szl _ (by omega)
          · rw [take1 hWj]
            exact Paired.snoc hPj ⟨(kk, jj), hpl, rfl⟩
        · rintro H9 ⟨e9, js, hD9, hPj⟩
          rw [hyl, List.take_length] at hPj
          refine ⟨(by show 2 ≤ sizeLine; decide), fun z hz => ?_⟩
          have n9 : Same H9 (upd H9 z (.tup [.str "cycle", .ref D])) := Same.new hz
          exact k _ z ⟨e08.trans (e9.trans n9), .inr ⟨D, W, js, upd_same, hD9.same m_Row n9, q3, hPj, q5⟩⟩
end
end Tt
end
section
set_option maxHeartbeats 4000000
namespace Tt
open PySem PySem.Spec PyProof.Rows L2
/-! ### the pool at p: its two numbers change, all else stays -/
def PoolAt (H : Hp) (p : Addr) : Prop := ∃ x y : Int, H p = some (.lst [.int x, .int y]) ∧ 0 ≤ x ∧ 0 ≤ y ∧ y < 2147483647
structure Pl (p : Addr) (H H' : Hp) : Prop where
  same : Same (Del H p) (Del H' p)
  pool : PoolAt H' p
theorem PoolAt.ne {H : Hp} {p q : Addr} (h : PoolAt H p) (hq : H q = none) : q ≠ p := by
  rintro rfl
  obtain ⟨x, y, e, _⟩ := h
  rw [hq] at e
  cases e
theorem PoolAt.same {H H' : Hp} {p : Addr} (h : PoolAt H p) (e : Same H H') : PoolAt H' p := by
  obtain ⟨x, y, h1, h2⟩ := h
  exact ⟨x, y, e _ _ h1, h2⟩
theorem Del.mono {H H' : Hp} (p : Addr) (e : Same H H') : Same (Del H p) (Del H' p) := fun b o h => by
  by_cases c : b = p
  · subst c; rw [Del.none] at h; cases h
  · rw [Del.at_ c] at h ⊢; exact e b o h
theorem Pl.of {p : Addr} {H H' : Hp} (e : Same H H') (h : PoolAt H p) : Pl p H H' := ⟨Del.mono p e, h.same e⟩
theorem Pl.refl {p : Addr} {H : Hp} (h : PoolAt H p) : Pl p H H := Pl.of (Same.refl H) h
theorem Pl.trans {p : Addr} {H H' H'' : Hp} (a : Pl p H H') (b : Pl p H' H'') : Pl p H H'' := ⟨a.same.trans b.same, b.pool⟩
theorem Pl.thn {p : Addr} {H H' H'' : Hp} (a : Pl p H H') (e : Same H' H'') : Pl p H H'' := a.trans (Pl.of e a.pool)
theorem Pl.at_ {p b : Addr} {H H' : Hp} {o : HO} (a : Pl p H H') (h : H b = some o) (hb : b ≠ p) : H' b = some o := by
  have := a.same b o (by rw [Del.at_ hb]; exact h)
  rw [Del.at_ hb] at this
  exact this
theorem Pl.free {p b : Addr} {H H' : Hp} (a : Pl p H H') (h : H' b = none) : H b = none := by
  have hb := a.pool.ne h
  cases e : H b with
  | none => rfl
  | some o => rw [a.at_ e hb] at h; cases h
theorem Pl.new {p q : Addr} {H : Hp} {o : HO} (h : PoolAt H p) (hq : H q = none) : Pl p H (upd H q o) := Pl.of (Same.new hq) h
theorem Pl.mut {p q : Addr} {H H' : Hp} {o : HO} (a : Pl p H H') (hq : H q = none) (hqp : q ≠ p) : Pl p H (upd H' q o) := by
  refine ⟨fun b u h => ?_, ?_⟩
  · have hb : b ≠ p := by
      rintro rfl
      rw [Del.none] at h; cases h
    have h0 := h
    rw [Del.at_ hb] at h0
    rw [Del.at_ hb, upd_ne (ne_of_none h0 hq)]
    exact a.at_ h0 hb
  · obtain ⟨x, y, e, r⟩ := a.pool
    exact ⟨x, y, by rw [upd_ne hqp.symm]; exact e, r⟩
theorem Pl.list {α : Type} {R : Rel α} (m : Mono R) {p a : Addr} {H H' : Hp} {l : List α} (e : Pl p H H') (h : ListAt R (Del H p) a l) : ListAt R (Del H' p) a l := h.same m e.same
theorem out_list {α : Type} {R : Rel α} (m : Mono R) {p a : Addr} {H : Hp} {l : List α} (h : ListAt R (Del H p) a l) : ListAt R H a l := h.same m (Del.same H p)
/-- what was laid without the pool -/
theorem fresh_list {α : Type} {R : Rel α} (kl : KdL R) (m : Mono R) {p a : Addr} {H : Hp} {l : List α} (hp : PoolAt H p) (h : ListAt R H a l) (ha : a ≠ p) : ListAt R (Del H p) a l := by
  obtain ⟨x, y, e, _⟩ := hp
  obtain ⟨xs, h1, h2⟩ := h
  exact ⟨xs, by rw [Del.at_ ha]; exact h1, Paired.mapP h2 fun v z q => kl _ _ _ _ _ e q⟩
theorem cdivw {i j : Int} (h : 0 < j) (h2 : j ≤ 1000000000) : CDivW i j := by
  refine ⟨h, ?_⟩
  have h3 : j.natAbs < 2 ^ 30 := by omega
  have h4 : j.natAbs.log2 < 30 := (Nat.log2_lt (by omega)).mpr h3
  omega
section
variable {P : Program} {w : World} {K : PySem.W.Frag} {mg : Str → Option Value} {base : Heap}
def sp_law_take : Sp := fun vs H Q _ => ∃ (p : Addr) (j : Int), vs = [.ref p, .int j] ∧ PoolAt H p ∧ 0 < j ∧ j ≤ 1000000000 ∧ ∀ H' r, Pl p H H' → 0 ≤ r → r < j → Q (.int r) H'
theorem ok_law_take (T : Tx K mg) : FnOk P w K mg base CX0 1 T.law_take.f T.law_take.fd N_law_take_ps sp_law_take := by
  refine T.law_take.F.ok sc_law_take (fun vs H Q E h => ?_) (fun cdv A outer s H vs Q E hr h => ?_)
  · obtain ⟨p, j, rfl, hp, h0, h1, k⟩ := h
    rfl
  · obtain ⟨p, j, rfl, hp, h0, h1, k⟩ := h
    have hu := hu_of hr
    refine ⟨_, PSs.nox (pss_cons (ps_if (pt_cmpR op_gt (pe_ix ix_list (pv 0) pe_int (fun _ _ => rfl)) pe_int (nomark _)) (pss_cons (ps_set (i := 2) sc_law_take.nd rfl (by first | exact Or.inl rfl | exact Or.inr rfl) (pe_op op_mod (pe_ix ix_list (pv 0) pe_int (fun _ _ => rfl)) (pv 1)))
        (pss_cons (ps_asg (pe_op op_fdivW (pe_ix ix_list (pv 0) pe_int (fun _ _ => rfl)) (pv 1)) (pg_sub (pv 0) pe_int set_list))
        (pss_one (ps_ret (pv 2))))) pss_nil)
      (pss_cons (ps_asg (pe_op op_mod (pe_op op_add (pe_op op_mul (pe_ix ix_list (pv 0) pe_int (fun _ _ => rfl)) pe_int) pe_int) pe_int) (pg_sub (pv 0) pe_int set_list))
      (pss_one (ps_ret (pe_op op_mod (pe_op op_fdivW (pe_op op_mod (pe_op op_mul (pe_ix ix_list (pv 0) pe_int (fun _ _ => rfl)) (pe_ix ix_list (pv 0) pe_int (fun _ _ => rfl))) pe_int) pe_int) (pv 1)))))), ?_⟩
    obtain ⟨x, y, e, hx, hy, hy2⟩ := id hp
    have fin : ∀ x' y' : Int, 0 ≤ x' → 0 ≤ y' → y' < 2147483647 → Pl p H (upd H p (.lst [.int x', .int y'])) := fun x' y' a b c => by
      refine ⟨fun b o h => ?_, x', y', upd_same, a, b, c⟩
      by_cases c : b = p
      · subst c; rw [Del.none] at h; cases h
      · rw [Del.at_ c] at h ⊢; rw [upd_ne c]; exact h
    refine ⟨_, rfl, p, _, _, _, rfl, rfl, SqL.of e, atI_nat (j := 0) rfl, _, _, rfl, rfl, _, rfl, ?_⟩
    refine ite2 (fun c => ?_) (fun c => ?_)
    · refine ⟨_, rfl, p, _, _, _, rfl, rfl, SqL.of e, atI_nat (j := 0) rfl, _, rfl, _, _, rfl, rfl, h0, ?_⟩
      refine ⟨_, rfl, p, _, _, _, rfl, rfl, SqL.of e, atI_nat (j := 0) rfl, _, rfl, _, _, rfl, rfl, cdivw h0 h1, ?_⟩
      refine ⟨_, rfl, p, _, _, 0, rfl, rfl, e, ixN_nat (v := 0) (n := 2) (by decide) (by decide), ?_⟩
      exact ⟨_, rfl, k _ _ (fin (x / j) y (Int.ediv_nonneg hx (by omega)) hy hy2) (Int.emod_nonneg _ (by omega)) (Int.emod_lt_of_pos _ h0)⟩
    · refine ⟨_, rfl, p, _, _, _, rfl, rfl, SqL.of e, atI_nat (j := 1) rfl, _, _, rfl, rfl, ?_, _, _, rfl, rfl, _, _, rfl, rfl, (by show (0 : Int) < 2147483647; decide), ?_⟩
      · right; exact ⟨by decide, by decide⟩
      have b1 : 0 ≤ (y * 48271 + 11) % 2147483647 := Int.emod_nonneg _ (by decide)
      have b2 : (y * 48271 + 11) % 2147483647 < 2147483647 := Int.emod_lt_of_pos _ (by decide)
      refine ⟨_, rfl, p, _, _, 1, rfl, rfl, e, ixN_nat (v := 1) (n := 2) (by decide) (by decide), ?_⟩
      have e2 : upd H p (.lst [.int x, .int ((y * 48271 + 11) % 2147483647)]) p = some (.lst [.int x, .int ((y * 48271 + 11) % 2147483647)]) := upd_same
      refine ⟨_, rfl, p, _, _, _, rfl, rfl, SqL.of e2, atI_nat (j := 1) rfl, _, rfl, p, _, _, _, rfl, rfl, SqL.of e2, atI_nat (j := 1) rfl, _, _, rfl, rfl, ?_, _, _, rfl, rfl, (by show (0 : Int) < 2147483629; decide), _, _, rfl, rfl, cdivw (by decide) (by decide), _, rfl, _, _, rfl, rfl, h0, ?_⟩
      · left; constructor <;> omega
      exact k _ _ (fin _ _ hx b1 b2) (Int.emod_nonneg _ (by omega)) (Int.emod_lt_of_pos _ h0)
def sp_law_pool (K : PySem.W.Frag) : Sp := fun vs H Q _ => ∃ (a : Addr) (ns : List Int) (k : Nat), vs = [.ref a, .int k] ∧ SqL K H a (ns.map V.int) ∧ k < 4 ∧ ∀ H' p, Same H H' → H p = none → PoolAt H' p → Q (.ref p) H'
def sp_law_mod : Sp := fun vs H Q _ => ∃ m x : Int, vs = [.int m, .int x] ∧ Q (.int (red m x)) H
theorem ok_law_mod (T : Tx K mg) : FnOk P w K mg base CX0 1 T.law_mod.f T.law_mod.fd N_law_mod_ps sp_law_mod := by
  refine T.law_mod.F.ok sc_law_mod (fun vs H Q E h => ?_) (fun cdv A outer s H vs Q E hr h => ?_)
  · obtain ⟨m, x, rfl, k⟩ := h
    rfl
  · obtain ⟨m, x, rfl, k⟩ := h
    have hu := hu_of hr
    refine ⟨_, PSs.nox (pss_cons (ps_if (pt_cmpR op_gt (pv 0) pe_int (nomark _)) (pss_one (ps_ret (pe_op op_mod (pv 1) (pv 0)))) pss_nil)
      (pss_one (ps_ret (pv 1)))), ?_⟩
    refine ⟨_, rfl, _, _, rfl, rfl, _, rfl, ?_⟩
    refine ite2 (fun c => ?_) (fun c => ?_)
    · have c : 0 < m := of_decide_eq_true c
      refine ⟨_, rfl, _, rfl, _, _, rfl, rfl, c, ?_⟩
      have e : red m x = x % m := if_pos c
      rw [e] at k
      exact k
    · have c : ¬ 0 < m := fun z => c (decide_eq_true z)
      have e : red m x = x := if_neg c
      rw [e] at k
      exact ⟨_, rfl, k⟩
def sp_law_residue : Sp := fun vs H Q _ => ∃ (p : Addr) (m : Int), vs = [.ref p, .int m] ∧ PoolAt H p ∧ ModOk m ∧ ∀ H' r, Pl p H H' → Res m r → Q (.int r) H'
theorem ok_law_residue (T : Tx K mg) : FnOk P w K mg base CX0 2 T.law_residue.f T.law_residue.fd N_law_residue_ps sp_law_residue := by
  have G_law_take := ok_law_take (P := P) (w := w) (base := base) T
  refine T.law_residue.F.ok sc_law_residue (fun vs H Q E h => ?_) (fun cdv A outer s H vs Q E hr h => ?_)
  · obtain ⟨p, m, rfl, hp, hm, k⟩ := h
    rfl
  · obtain ⟨p, m, rfl, hp, hm, k⟩ := h
    have hu := hu_of hr
    refine ⟨_, PSs.nox (pss_cons (ps_if (pt_cmpR op_gt (pv 1) pe_int (nomark _)) (pss_one (ps_ret (pe_call G_law_take (hr.mono (by decide)) rfl T.law_take.m T.law_take.F.kp T.law_take.b .nil pass0 (pa_cons (pv 0) (pa_cons (pv 1) pa_nil))))) pss_nil)
      (pss_cons (ps_set (i := 2) sc_law_residue.nd rfl (by first | exact Or.inl rfl | exact Or.inr rfl) (pe_op op_sub (pe_op op_mul (pe_call G_law_take (hr.mono (by decide)) rfl T.law_take.m T.law_take.F.kp T.law_take.b .nil pass0 (pa_cons (pv 0) (pa_cons (pe_op op_pow pe_int pe_int) pa_nil))) (pe_op op_pow pe_int pe_int)) (pe_op op_mul pe_int (pe_op op_pow pe_int pe_int))))
      (pss_one (ps_ret (pe_ix ix_list (pe_lst (pa_cons (pe_op op_sub (pe_call G_law_take (hr.mono (by decide)) rfl T.law_take.m T.law_take.F.kp T.law_take.b .nil pass0 (pa_cons (pv 0) (pa_cons pe_int pa_nil))) pe_int) (pa_cons (pe_op op_sub (pe_call G_law_take (hr.mono (by decide)) rfl T.law_take.m T.law_take.F.kp T.law_take.b .nil pass0 (pa_cons (pv 0) (pa_cons pe_int pa_nil))) pe_int) (pa_cons pe_int (pa_cons (pv 2) pa_nil))))) (pe_call G_law_take (hr.mono (by decide)) rfl T.law_take.m T.law_take.F.kp T.law_take.b .nil pass0 (pa_cons (pv 0) (pa_cons pe_int pa_nil))) (fun _ _ => rfl)))))), ?_⟩
    refine ⟨_, rfl, _, _, rfl, rfl, _, rfl, ?_⟩
    refine ite2 (fun c => ?_) (fun c => ?_)
    · have c : 0 < m := of_decide_eq_true c
      exact ⟨_, rfl, _, rfl, p, m, rfl, hp, c, (by rcases hm with h | h <;> omega), fun H' r e h1 h2 => k H' r e fun _ => ⟨h1, h2⟩⟩
    · have c : ¬ 0 < m := fun z => c (decide_eq_true z)
      have any : ∀ r, Res m r := fun r z => absurd z c
      have cp : ∀ j : Int, 0 ≤ j → j ≤ 1000000 → CPow 10 j := fun j a b => ⟨a, b, by decide⟩
      refine ⟨_, rfl, _, _, rfl, rfl, cp 9 (by decide) (by decide), p, _, rfl, hp, by decide, by decide, fun H1 r1 e1 a1 b1 => ?_⟩
      refine ⟨_, _, rfl, rfl, cp 9 (by decide) (by decide), _, _, rfl, rfl, .inr ⟨by decide, by decide⟩, ?_⟩
      refine ⟨_, _, rfl, rfl, cp 17 (by decide) (by decide), _, _, rfl, rfl, .inl ⟨by decide, by decide⟩, _, _, rfl, rfl, ?_⟩
      refine ⟨_, rfl, p, 9, rfl, e1.pool, by decide, by decide, fun H2 r2 e2 _ _ => ?_⟩
      refine ⟨_, _, rfl, rfl, ?_⟩
      refine ⟨_, rfl, p, 9, rfl, e2.pool, by decide, by decide, fun H3 r3 e3 _ _ => ?_⟩
      refine ⟨_, _, rfl, rfl, _, rfl, (by show 4 ≤ sizeLine; decide), fun l hl => ?_⟩
      have n4 := Pl.new (o := .lst ([r2 - 4, r3 - 4, 0, r1 * 10 ^ (9 : Int).toNat - 5 * 10 ^ (17 : Int).toNat].map V.int)) e3.pool hl
      have hlp := e3.pool.ne hl
      refine ⟨_, rfl, p, 4, rfl, n4.pool, by decide, by decide, fun H5 r5 e5 a5 b5 => ?_⟩
      obtain ⟨k0, rfl⟩ := Int.eq_ofNat_of_zero_le a5
      have h5 := e5.at_ (upd_same (H := H3) (a := l)) hlp
      exact ⟨l, _, _, _, rfl, rfl, SqL.of h5, ints_at (l := [r2 - 4, r3 - 4, 0, r1 * 10 ^ (9 : Int).toNat - 5 * 10 ^ (17 : Int).toNat]) (by show k0 < 4; omega), k H5 _ (e1.trans (e2.trans (e3.trans (n4.trans e5)))) (any _)⟩
def sp_law_base : Sp := fun vs H Q _ => ∃ (p : Addr), vs = [.ref p] ∧ PoolAt H p ∧ ∀ H' m, Pl p H H' → ModOk m → Q (.int m) H'
theorem ok_law_base (T : Tx K mg) : FnOk P w K mg base CX0 2 T.law_base.f T.law_base.fd N_law_base_ps sp_law_base := by
  have G_law_take := ok_law_take (P := P) (w := w) (base := base) T
  refine T.law_base.F.ok sc_law_base (fun vs H Q E h => ?_) (fun cdv A outer s H vs Q E hr h => ?_)
  · obtain ⟨p, rfl, hp, k⟩ := h
    rfl
  · obtain ⟨p, rfl, hp, k⟩ := h
    have hu := hu_of hr
    refine ⟨_, PSs.nox (pss_one (ps_ret (pe_ix ix_list (pe_lst (pa_cons pe_int (pa_cons pe_int (pa_cons pe_int (pa_cons pe_int (pa_cons pe_int (pa_cons pe_int (pa_cons pe_int (pa_cons (pe_op op_add pe_int (pe_call G_law_take (hr.mono (by decide)) rfl T.law_take.m T.law_take.F.kp T.law_take.b .nil pass0 (pa_cons (pv 0) (pa_cons pe_int pa_nil)))) pa_nil))))))))) (pe_call G_law_take (hr.mono (by decide)) rfl T.law_take.m T.law_take.F.kp T.law_take.b .nil pass0 (pa_cons (pv 0) (pa_cons pe_int pa_nil))) (fun _ _ => rfl)))), ?_⟩
    refine ⟨_, rfl, p, 59, rfl, hp, by decide, by decide, fun H1 r1 e1 a1 b1 => ?_⟩
    refine ⟨_, _, rfl, rfl, (by show 8 ≤ sizeLine; decide), fun l hl => ?_⟩
    have n2 := Pl.new (o := .lst ([0, 0, 2, 3, 4, 5, 12, 2 + r1].map V.int)) e1.pool hl
    have hlp := e1.pool.ne hl
    refine ⟨_, rfl, p, 8, rfl, n2.pool, by decide, by decide, fun H5 r5 e5 a5 b5 => ?_⟩
    obtain ⟨k0, rfl⟩ := Int.eq_ofNat_of_zero_le a5
    have h5 := e5.at_ (upd_same (H := H1) (a := l)) hlp
    refine ⟨l, _, _, _, rfl, rfl, SqL.of h5, ints_at (l := [0, 0, 2, 3, 4, 5, 12, 2 + r1]) (by show k0 < 8; omega), k H5 _ (e1.trans (n2.trans e5)) ?_⟩
    have hm : fn [0, 0, 2, 3, 4, 5, 12, 2 + r1] k0 ∈ [0, 0, 2, 3, 4, 5, 12, 2 + r1] := List.mem_of_getElem? (fn_get (by show k0 < 8; omega))
    generalize fn [0, 0, 2, 3, 4, 5, 12, 2 + r1] k0 = z at hm
    unfold ModOk
    simp only [List.mem_cons, List.not_mem_nil, or_false] at hm
    omega
theorem ok_law_pool (T : Tx K mg) : FnOk P w K mg base CX0 1 T.law_pool.f T.law_pool.fd N_law_pool_ps (sp_law_pool K) := by
  refine T.law_pool.F.ok sc_law_pool (fun vs H Q E h => ?_) (fun cdv A outer s H vs Q E hr h => ?_)
  · obtain ⟨a, ns, k0, rfl, ha, hk, k⟩ := h
    rfl
  · obtain ⟨a, ns, k0, rfl, ha, hk, k⟩ := h
    have hu := hu_of hr
    refine ⟨_, PSs.nox (pss_cons (ps_set (i := 2) sc_law_pool.nd rfl (by first | exact Or.inl rfl | exact Or.inr rfl) pe_int)
      (pss_cons (ps_if (pt_cmpR op_lt (pv 1) (pe_callB call_len_seq (by rfl) T.n_len (by decide +kernel) (pa_cons (pv 0) pa_nil)) (nomark _)) (pss_one (ps_set (i := 2) sc_law_pool.nd rfl (by first | exact Or.inl rfl | exact Or.inr rfl) (pe_ix ix_list (pv 0) (pv 1) (fun _ _ => rfl)))) pss_nil)
      (pss_cons (ps_set (i := 3) sc_law_pool.nd rfl (by first | exact Or.inl rfl | exact Or.inr rfl) (pe_callB call_abs (by rfl) T.n_abs (by decide +kernel) (pa_cons (pv 2) pa_nil)))
      (pss_cons (ps_set (i := 4) sc_law_pool.nd rfl (by first | exact Or.inl rfl | exact Or.inr rfl) (pe_op op_mod (pe_op op_mul (pe_op op_add (pe_op op_add (pe_op op_mod (pv 3) pe_int) (pe_op op_mul (pe_op op_mul pe_int (pv 1)) (pv 1))) pe_int) pe_int) pe_int))
      (pss_one (ps_ret (pe_lst (pa_cons (pe_op op_mul (pv 3) (pe_callTy call_int1 (by rfl) T.n_int (by decide +kernel) (pa_cons (pe_cmpR op_ge (pv 3) (pe_op op_pow pe_int pe_int) (nomark _)) pa_nil))) (pa_cons (pv 4) pa_nil))))))))), ?_⟩
    have cp : ∀ j : Int, 0 ≤ j → j ≤ 1000000 → CPow 10 j := fun j a b => ⟨a, b, by decide⟩
    have hab : ∀ i : Int, 0 ≤ (if i < 0 then -i else i) := fun i => by split <;> omega
    refine ⟨_, rfl, _, rfl, _, _, rfl, .inl ha, _, _, rfl, rfl, _, rfl, ?_⟩
    refine ite2 (fun c => ?_) (fun c => ?_)
    · have c := of_decide_eq_true c
      rw [List.length_map] at c
      refine ⟨_, rfl, _, rfl, a, _, _, _, rfl, rfl, ha, ints_at (by omega), ?_⟩
      generalize fn ns k0 = z
      have hz := hab z
      refine ⟨_, rfl, _, rfl, ?_⟩
      generalize (if z < 0 then -z else z) = wv at hz
      refine ⟨_, rfl, _, _, rfl, rfl, (by show (0 : Int) < 2147483629; decide), _, rfl, _, _, rfl, rfl, .inl ⟨by decide, by decide⟩, _, rfl, _, _, rfl, rfl, .inr ⟨by omega, by omega⟩, _, _, rfl, rfl, _, _, rfl, rfl, _, _, rfl, rfl, .inr ⟨by decide, by decide⟩, _, _, rfl, rfl, (by show (0 : Int) < 2147483647; decide), ?_⟩
      refine ⟨_, rfl, _, rfl, _, _, rfl, rfl, cp 18 (by decide) (by decide), _, _, rfl, rfl, .inr ⟨_, rfl, _, _, rfl, rfl, .inr ?_, _, rfl, (by show 2 ≤ sizeLine; decide), fun p hp => k _ p (Same.new hp) hp ⟨_, _, upd_same, ?_, Int.emod_nonneg _ (by decide), Int.emod_lt_of_pos _ (by decide)⟩⟩⟩
      · split <;> exact ⟨by decide, by decide⟩
      · split <;> omega
    · have hz := hab 0
      refine ⟨_, rfl, _, rfl, ?_⟩
      generalize (if (0 : Int) < 0 then -0 else 0) = wv at hz
      refine ⟨_, rfl, _, _, rfl, rfl, (by show (0 : Int) < 2147483629; decide), _, rfl, _, _, rfl, rfl, .inl ⟨by decide, by decide⟩, _, rfl, _, _, rfl, rfl, .inr ⟨by omega, by omega⟩, _, _, rfl, rfl, _, _, rfl, rfl, _, _, rfl, rfl, .inr ⟨by decide, by decide⟩, _, _, rfl, rfl, (by show (0 : Int) < 2147483647; decide), ?_⟩
      refine ⟨_, rfl, _, rfl, _, _, rfl, rfl, cp 18 (by decide) (by decide), _, _, rfl, rfl, .inr ⟨_, rfl, _, _, rfl, rfl, .inr ?_, _, rfl, (by show 2 ≤ sizeLine; decide), fun p hp => k _ p (Same.new hp) hp ⟨_, _, upd_same, ?_, Int.emod_nonneg _ (by decide), Int.emod_lt_of_pos _ (by decide)⟩⟩⟩
      · split <;> exact ⟨by decide, by decide⟩
      · split <;> omega
end
end Tt
end
section
set_option maxHeartbeats 4000000
namespace Tt
open PySem PySem.Spec PyProof.Rows L2
/-! ### data, compared -/
def Lay (d : PyData) (k : Nat) : Prop := d.canLay0 = true ∧ d.depth ≤ k
theorem lay_all {ds : List PyData} {k : Nat} (h : ∀ d ∈ ds, Lay d k) : PyData.canLayAll0 ds = true ∧ PyData.depthAll ds ≤ k := by
  induction ds with
  | nil => exact ⟨by simp [PyData.canLayAll0], by simp [PyData.depthAll]⟩
  | cons d ds ih =>
    obtain ⟨h1, h2⟩ := h d List.mem_cons_self
    obtain ⟨h3, h4⟩ := ih fun d hd => h d (List.mem_cons_of_mem _ hd)
    exact ⟨by simp [PyData.canLayAll0, h1, h3], by simp only [PyData.depthAll]; omega⟩
theorem lay_list {ds : List PyData} {k : Nat} (h : ∀ d ∈ ds, Lay d k) : Lay (.list ds) (k + 1) := by
  obtain ⟨h1, h2⟩ := lay_all h
  exact ⟨by simp only [PyData.canLay0]; exact h1, by simp only [PyData.depth]; omega⟩
theorem lay_tuple {ds : List PyData} {k : Nat} (h : ∀ d ∈ ds, Lay d k) : Lay (.tuple ds) (k + 1) := by
  obtain ⟨h1, h2⟩ := lay_all h
  exact ⟨by simp only [PyData.canLay0]; exact h1, by simp only [PyData.depth]; omega⟩
theorem lay_int (i : Int) : Lay (.int i) 0 := ⟨by simp [PyData.canLay0], by simp [PyData.depth]⟩
theorem lay_shaped {d : PyData} {k : Nat} (h : Lay d k) (hk : k ≤ 64) : SeqAt.shaped d = true := by
  show (d.canLay0 && decide (d.depth ≤ 64)) = true
  rw [Bool.and_eq_true]
  exact ⟨h.1, decide_eq_true (Nat.le_trans h.2 hk)⟩
def prI (e : Nat × Nat) : PyData := .tuple [.int e.1, .int e.2]
theorem lay_prI (e : Nat × Nat) : Lay (prI e) 1 := lay_tuple fun d hd => by
  rcases List.mem_cons.mp hd with rfl | hd
  · exact lay_int _
  · rcases List.mem_cons.mp hd with rfl | hd
    · exact lay_int _
    · cases hd
def prsD (es : Es) : PyData := .list (es.map prI)
theorem lay_prs (es : Es) : Lay (prsD es) 2 := lay_list fun d hd => by
  obtain ⟨e, _, rfl⟩ := List.mem_map.mp hd
  exact lay_prI e
def intsD (gs : List Int) : PyData := .list (gs.map PyData.int)
theorem lay_ints (gs : List Int) : Lay (intsD gs) 1 := lay_list fun d hd => by
  obtain ⟨e, _, rfl⟩ := List.mem_map.mp hd
  exact lay_int e
def intssD (gss : List (List Int)) : PyData := .list (gss.map intsD)
theorem lay_intss (gss : List (List Int)) : Lay (intssD gss) 2 := lay_list fun d hd => by
  obtain ⟨e, _, rfl⟩ := List.mem_map.mp hd
  exact lay_ints e
theorem dpAll {α : Type} {K : PySem.W.Frag} {H : Hp} {f : α → PyData} : ∀ {xs : List V} {l : List α}, Paired (fun v d => Dp K H v (f d)) xs l → DpAll K H xs (l.map f)
  | _, _, .nil => .nil
  | _, _, .cons h t => .cons h (dpAll t)
theorem dp_prs {K : PySem.W.Frag} {H : Hp} {a : Addr} {es : Es} (h : ListAt PairR H a es) : Dp K H (.ref a) (prsD es) := by
  obtain ⟨xs, h1, h2⟩ := h
  refine .lst (SqL.of h1) (dpAll (Paired.mapP h2 fun v e q => ?_))
  obtain ⟨t, rfl, ht⟩ := q
  exact .tup (SqT.of ht) (.cons (.int _) (.cons (.int _) .nil))
theorem dp_ints {K : PySem.W.Frag} {H : Hp} {a : Addr} {gs : List Int} (h : ListAt IntR H a gs) : Dp K H (.ref a) (intsD gs) := by
  obtain ⟨xs, h1, h2⟩ := h
  refine .lst (SqL.of h1) (dpAll (Paired.mapP h2 fun v e q => ?_))
  have q : v = .int e := q
  subst q
  exact .int _
theorem dp_intss {K : PySem.W.Frag} {H : Hp} {a : Addr} {gss : List (List Int)} (h : ListAt (LstR IntR) H a gss) : Dp K H (.ref a) (intssD gss) := by
  obtain ⟨xs, h1, h2⟩ := h
  refine .lst (SqL.of h1) (dpAll (Paired.mapP h2 fun v e q => ?_))
  obtain ⟨b, rfl, hb⟩ := q
  exact dp_ints hb
theorem dp_nil {K : PySem.W.Frag} {H : Hp} {a : Addr} (h : H a = some (.lst [])) : Dp K H (.ref a) (.list []) := .lst (SqL.of h) .nil
theorem eqv_prs_nil (es : Es) : PyData.eqv (prsD es) (.list []) = decide (es = []) := by
  cases es with
  | nil => simp [prsD, PyData.eqv, PyData.eqvAll]
  | cons e es => simp [prsD, PyData.eqv, PyData.eqvAll]
section
variable {P : Program} {w : World} {K : PySem.W.Frag} {mg : Str → Option Value} {base : Heap}
def sp_law_pairs : Sp := fun vs H Q _ => ∃ (p : Addr) (n : Nat) (b : Int), vs = [.ref p, .int n, .int b] ∧ PoolAt H p ∧ 1 ≤ n ∧ n ≤ 30 ∧ 0 ≤ b ∧ b ≤ 60 ∧ ∀ H' a es, Pl p H H' → H a = none → ListAt PairR (Del H' p) a es → EdOk n es → es.length ≤ b.toNat → Q (.ref a) H'
theorem ok_law_pairs (T : Tx K mg) : FnOk P w K mg base CX0 2 T.law_pairs.f T.law_pairs.fd N_law_pairs_ps sp_law_pairs := by
  have G_law_take := ok_law_take (P := P) (w := w) (base := base) T
  refine T.law_pairs.F.ok sc_law_pairs (fun vs H Q E h => ?_) (fun cdv A outer s H vs Q E hr h => ?_)
  · obtain ⟨p, n, b, rfl, hp, h1, hn, h0, hb, k⟩ := h
    rfl
  · obtain ⟨p, n, b, rfl, hp, h1, hn, h0, hb, k⟩ := h
    have hu := hu_of hr
    refine ⟨_, PSs.nox (pss_cons (ps_set (i := 3) sc_law_pairs.nd rfl (by first | exact Or.inl rfl | exact Or.inr rfl) (pe_lst pa_nil))
      (pss_cons (ps_for PassesOwn.never rfl (pi_range1 rfl T.n_range (pa_cons (pe_call G_law_take (hr.mono (by decide)) rfl T.law_take.m T.law_take.F.kp T.law_take.b .nil pass0 (pa_cons (pv 0) (pa_cons (pe_op op_add (pv 2) pe_int) pa_nil))) pa_nil)) (pg_name (i := 4) sc_law_pairs.nd rfl (by first | exact Or.inl rfl | exact Or.inr rfl))
        (pss_cons (ps_set (i := 5) sc_law_pairs.nd rfl (by first | exact Or.inl rfl | exact Or.inr rfl) (pe_call G_law_take (hr.mono (by decide)) rfl T.law_take.m T.law_take.F.kp T.law_take.b .nil pass0 (pa_cons (pv 0) (pa_cons (pv 1) pa_nil))))
        (pss_cons (ps_set (i := 6) sc_law_pairs.nd rfl (by first | exact Or.inl rfl | exact Or.inr rfl) (pe_call G_law_take (hr.mono (by decide)) rfl T.law_take.m T.law_take.F.kp T.law_take.b .nil pass0 (pa_cons (pv 0) (pa_cons (pv 1) pa_nil))))
        (pss_one (ps_expr (pe_bm PySem.F.plainAttrs_list PySem.F.slot_list_append PySem.F.type_list_append mt_append (pv 3) (pa_cons (pe_tup (pa_cons (pv 5) (pa_cons (pv 6) pa_nil))) pa_nil)))))))
      (pss_one (ps_ret (pv 3))))), ?_⟩
    refine ⟨Nat.zero_le _, fun fl hfl => ?_⟩
    have n1 := Pl.new (o := .lst []) hp hfl
    have hne := hp.ne hfl
    have hf1 : ListAt PairR (Del (upd H fl (.lst [])) p) fl [] := ⟨[], by rw [Del.at_ hne]; exact upd_same, .nil⟩
    refine ⟨_, rfl, _, rfl, _, _, rfl, rfl, p, b + 1, rfl, n1.pool, by omega, by omega, fun H1 r e1 r0 r1 => ?_⟩
    refine ⟨r, rfl, by omega, by omega, for_it (walk_range (lo := 0) (n := r.toNat)) (fun i σ H2 => ∃ (u v z : Option V) (es : Es), σ = [some (.ref p), some (.int n), some (.int b), some (.ref fl), u, v, z] ∧ Pl p H H2 ∧ ListAt PairR (Del H2 p) fl es ∧ es.length = i ∧ EdOk n es)
      ⟨_, _, _, [], rfl, n1.trans e1, e1.list m_Pair hf1, rfl, fun _ h => nomatch h⟩ (fun _ _ _ _ _ => trivial) ?_ ?_⟩
    · rintro i x σ Hx H2 hi ⟨u, v, z, es, rfl, e2, hf, hl, he⟩ ⟨rfl, rfl⟩
      refine ⟨_, rfl, _, rfl, p, _, rfl, e2.pool, by omega, by omega, fun H3 t e3 t0 t1 => ?_⟩
      refine ⟨_, rfl, _, rfl, p, _, rfl, e3.pool, by omega, by omega, fun H4 h e4 g0 g1 => ?_⟩
      obtain ⟨t, rfl⟩ := Int.eq_ofNat_of_zero_le t0
      obtain ⟨h, rfl⟩ := Int.eq_ofNat_of_zero_le g0
      have hf4 := (e3.trans e4).list m_Pair hf
      obtain ⟨zs, f1, f2⟩ := id hf4
      rw [Del.at_ hne] at f1
      refine ⟨_, rfl, .inl ⟨rfl, _, SqL.of f1⟩, _, rfl, _, rfl, (by show 2 ≤ sizeLine; decide), fun q hq => ?_⟩
      have n5 := Pl.new (o := .tup [.int (t : Nat), .int (h : Nat)]) e4.pool hq
      have hf5 := n5.list m_Pair hf4
      have f5 : upd H4 q (.tup [.int (t : Nat), .int (h : Nat)]) fl = some (.lst zs) := n5.at_ f1 hne
      have e05 := e2.trans (e3.trans (e4.trans n5))
      have hq5 : upd H4 q (.tup [.int (t : Nat), .int (h : Nat)]) q = some (.tup [.int (t : Nat), .int (h : Nat)]) := upd_same
      have f2' := Paired.mono m_Pair (Del.same _ p) (Paired.mono m_Pair n5.same f2)
      generalize upd H4 q (.tup [.int (t : Nat), .int (h : Nat)]) = H5 at hf5 f5 e05 hq5 f2'
      refine ⟨fl, _, _, rfl, rfl, f5, ?_, ?_⟩
      · rw [Paired.length f2, hl]; exact szl _ (by omega)
      have e06 := Pl.mut (o := .lst (zs ++ [.ref q])) e05 hfl hne
      refine ⟨_, _, _, es ++ [(t, h)], rfl, e06, ?_, by rw [List.length_append, hl]; rfl, fun e he' => ?_⟩
      · exact fresh_list kl_Pair m_Pair e06.pool (list_push m_Pair kl_Pair f5 f2' (y := (t, h)) ⟨q, rfl, hq5⟩) hne
      · rcases List.mem_append.mp he' with h' | h'
        · exact he e h'
        · rw [List.mem_singleton.mp h']
          exact ⟨by show t < n; omega, by show h < n; omega⟩
    · rintro σ H2 ⟨u, v, z, es, rfl, e2, hf, hl, he⟩
      exact ⟨_, rfl, k H2 fl es e2 hfl hf he (by omega)⟩
def sp_law_many_webs : Sp := fun vs H Q _ => ∃ (p : Addr) (n : Nat) (b : Int), vs = [.ref p, .int n, .int b] ∧ PoolAt H p ∧ 1 ≤ n ∧ n ≤ 30 ∧ 0 ≤ b ∧ b ≤ 60 ∧ ∀ H' a L, Pl p H H' → H a = none → ListAt (LstR PairR) (Del H' p) a L → (∀ es ∈ L, EdOk n es ∧ es.length ≤ b.toNat) → 1 ≤ L.length → L.length ≤ 6 → Q (.ref a) H'
theorem ok_law_many_webs (T : Tx K mg) : FnOk P w K mg base CX0 3 T.law_many_webs.f T.law_many_webs.fd N_law_many_webs_ps sp_law_many_webs := by
  have G_law_pairs := ok_law_pairs (P := P) (w := w) (base := base) T
  have G_law_take := ok_law_take (P := P) (w := w) (base := base) T
  refine T.law_many_webs.F.ok sc_law_many_webs (fun vs H Q E h => ?_) (fun cdv A outer s H vs Q E hr h => ?_)
  · obtain ⟨p, n, b, rfl, hp, h1, hn, h0, hb, k⟩ := h
    rfl
  · obtain ⟨p, n, b, rfl, hp, h1, hn, h0, hb, k⟩ := h
    have hu := hu_of hr
    refine ⟨_, PSs.nox (pss_cons (ps_set (i := 3) sc_law_many_webs.nd rfl (by first | exact Or.inl rfl | exact Or.inr rfl) (pe_lst pa_nil))
      (pss_cons (ps_for PassesOwn.never rfl (pi_range1 rfl T.n_range (pa_cons (pe_op op_add pe_int (pe_call G_law_take (hr.mono (by decide)) rfl T.law_take.m T.law_take.F.kp T.law_take.b .nil pass0 (pa_cons (pv 0) (pa_cons pe_int pa_nil)))) pa_nil)) (pg_name (i := 4) sc_law_many_webs.nd rfl (by first | exact Or.inl rfl | exact Or.inr rfl))
        (pss_one (ps_expr (pe_bm PySem.F.plainAttrs_list PySem.F.slot_list_append PySem.F.type_list_append mt_append (pv 3) (pa_cons (pe_call G_law_pairs (hr.mono (by decide)) rfl T.law_pairs.m T.law_pairs.F.kp T.law_pairs.b .nil pass0 (pa_cons (pv 0) (pa_cons (pv 1) (pa_cons (pv 2) pa_nil)))) pa_nil)))))
      (pss_one (ps_ret (pv 3))))), ?_⟩
    refine ⟨Nat.zero_le _, fun fl hfl => ?_⟩
    have n1 := Pl.new (o := .lst []) hp hfl
    have hne := hp.ne hfl
    have hf1 : upd H fl (.lst []) fl = some (.lst []) := upd_same
    refine ⟨_, rfl, p, 6, rfl, n1.pool, by decide, by decide, fun H1 r e1 r0 r1 => ?_⟩
    refine ⟨_, _, rfl, rfl, 1 + r, rfl, by omega, by omega, for_it (walk_range (lo := 0) (n := (1 + r).toNat)) (fun i σ H2 => ∃ (u : Option V) (zs : List V) (L : List Es), σ = [some (.ref p), some (.int n), some (.int b), some (.ref fl), u] ∧ Pl p H H2 ∧ H2 fl = some (.lst zs) ∧ Paired (LstR PairR (Del (Del H2 p) fl)) zs L ∧ L.length = i ∧ (∀ es ∈ L, EdOk n es ∧ es.length ≤ b.toNat))
      ⟨_, [], [], rfl, n1.trans e1, e1.at_ hf1 hne, .nil, rfl, fun _ h => nomatch h⟩ (fun _ _ _ _ _ => trivial) ?_ ?_⟩
    · rintro i x σ Hx H2 hi ⟨u, zs, L, rfl, e2, f1, f2, hl, he⟩ ⟨rfl, rfl⟩
      refine ⟨_, rfl, .inl ⟨rfl, _, SqL.of f1⟩, ?_⟩
      refine ⟨_, rfl, _, rfl, _, rfl, p, n, b, rfl, e2.pool, h1, hn, h0, hb, fun H3 a es e3 ha hes ed el => ?_⟩
      have f3 := e3.at_ f1 hne
      have haf : a ≠ fl := (ne_of_none f1 ha).symm
      refine ⟨fl, _, _, rfl, rfl, f3, ?_, ?_⟩
      · rw [Paired.length f2, hl]; exact szl _ (by omega)
      have f4 : Del H3 p fl = some (.lst zs) := by rw [Del.at_ hne]; exact f3
      have hes2 : ListAt PairR (Del (Del H3 p) fl) a es := by
        obtain ⟨ys, y1, y2⟩ := hes
        exact ⟨ys, by rw [Del.at_ haf]; exact y1, Paired.mapP y2 fun v y q => kl_Pair _ _ _ _ _ f4 q⟩
      have st : Same (Del (Del H3 p) fl) (Del (Del (upd H3 fl (.lst (zs ++ [.ref a]))) p) fl) := fun c o hc => by
        have c1 : c ≠ fl := by rintro rfl; rw [Del.none] at hc; cases hc
        rw [Del.at_ c1] at hc ⊢
        have c2 : c ≠ p := by rintro rfl; rw [Del.none] at hc; cases hc
        rw [Del.at_ c2] at hc ⊢
        rw [upd_ne c1]
        exact hc
      have f5 := Paired.mono (m_Lst m_Pair) (Del.mono fl e3.same) f2
      refine ⟨_, _, L ++ [es], rfl, Pl.mut (e2.trans e3) hfl hne, upd_same, Paired.mono (m_Lst m_Pair) st (Paired.snoc f5 ⟨a, rfl, hes2⟩), by rw [List.length_append, hl]; rfl, fun e he' => ?_⟩
      rcases List.mem_append.mp he' with h' | h'
      · exact he e h'
      · rw [List.mem_singleton.mp h']
        exact ⟨ed, el⟩
    · rintro σ H2 ⟨u, zs, L, rfl, e2, f1, f2, hl, he⟩
      exact ⟨_, rfl, k H2 fl L e2 hfl ⟨zs, by rw [Del.at_ hne]; exact f1, Paired.mono (m_Lst m_Pair) (Del.same _ fl) f2⟩ he (by omega) (by omega)⟩
end
end Tt
end
section
set_option maxHeartbeats 4000000
namespace Tt
open PySem PySem.Spec PyProof.Rows L2
section
variable {P : Program} {w : World} {K : PySem.W.Frag} {mg : Str → Option Value} {base : Heap}
def sp_law_led : Sp := fun vs H Q _ => ∃ (pa oa la : Addr) (m : Int) (es : Es) (gs ps : List Int), vs = [.ref pa, .int m, .ref oa, .ref la] ∧ ListAt PairR H pa es ∧ H oa = some (.lst (gs.map V.int)) ∧ H la = some (.lst (ps.map V.int)) ∧ gs.length = es.length ∧ EdOk ps.length es ∧ es.length ≤ 60 ∧
  ∀ H' a, Same H H' → H a = none → H' a = some (.lst ((ledOf m es gs ps).map V.int)) → Q (.ref a) H'
theorem ok_law_led (T : Tx K mg) : FnOk P w K mg base CX0 2 T.law_led.f T.law_led.fd N_law_led_ps sp_law_led := by
  have G_law_mod := ok_law_mod (P := P) (w := w) (base := base) T
  refine T.law_led.F.ok sc_law_led (fun vs H Q E h => ?_) (fun cdv A outer s H vs Q E hr h => ?_)
  · obtain ⟨pa, oa, la, m, es, gs, ps, rfl, hpa, hoa, hla, hl, he, h60, k⟩ := h
    rfl
  · obtain ⟨pa, oa, la, m, es, gs, ps, rfl, hpa, hoa, hla, hl, he, h60, k⟩ := h
    have hu := hu_of hr
    refine ⟨_, PSs.nox (pss_one (ps_ret (pe_lc (own := [("_law_one", 4), ("_law_tail", 5), ("_law_head", 6)]) (tt := tYes) rfl sc_law_led.nd (pi_zip (by rfl) T.n_zip (pa_cons (pv 2) (pa_cons (pv 0) pa_nil))) (blkOk_by (N := N_law_led) (sc := defScope (top 59)) (by decide +kernel)) (fun _ _ _ _ _ => (pg_tupB (K := K) (n := 2) rfl rfl (pgs_cons (pg_name (i := 4) sc_law_led.nd rfl (by first | exact Or.inl rfl | exact Or.inr rfl)) (pgs_cons (pg_tupB (K := K) (n := 2) rfl rfl (pgs_cons (pg_name (i := 5) sc_law_led.nd rfl (by first | exact Or.inl rfl | exact Or.inr rfl)) (pgs_cons (pg_name (i := 6) sc_law_led.nd rfl (by first | exact Or.inl rfl | exact Or.inr rfl)) pgs_nil))) pgs_nil)))) (fun _ _ _ _ _ => pts_nil) (fun _ _ _ _ _ => (pe_call G_law_mod (hr.mono (by decide)) rfl T.law_mod.m T.law_mod.F.kp T.law_mod.b .nil pass0 (pa_cons (pv 1) (pa_cons (pe_op op_sub (pe_op op_add (pv 4) (pe_ix (ix_listB (K := K) rfl) (pv 3) (pv 5) (fun _ _ => rfl))) (pe_ix (ix_listB (K := K) rfl) (pv 3) (pv 6) (fun _ _ => rfl))) pa_nil))))))), ?_⟩
    obtain ⟨xs, h1, h2⟩ := id hpa
    have hxl := Paired.length h2
    refine ⟨_, rfl, _, rfl, oa, pa, _, _, rfl, SqL.of hoa, SqL.of h1, fun D hD => ?_⟩
    refine lc_it (walk_zip (K := K) (a := oa) (b := pa) (xs := gs.map V.int) (ys := xs) (n := es.length) (by rw [List.length_map]; omega)) (fun i H2 => Same H H2 ∧ H2 D = some (.lst (((ledOf m es gs ps).take i).map V.int))) ⟨Same.new hD, upd_same⟩ (fun i H2 _ ⟨e, _⟩ => ⟨SqL.of (e _ _ hoa), SqL.of (e _ _ h1)⟩) ?_ ?_
    · rintro i x H2 H3 hi ⟨e2, f2⟩ ⟨T0, p1, p2, rfl, hT0, rfl, hp1, hp2⟩
      obtain ⟨⟨t, h⟩, hed, t2, rfl, ht2⟩ := Paired.at2 h2 hp2
      obtain ⟨g, hg, rfl⟩ := map_at hp1
      obtain ⟨b1, b2⟩ := he.at_ hed
      have n1 : Same H2 (upd H2 T0 (.tup [.int g, .ref t2])) := Same.new hT0
      have e3 := e2.trans n1
      have f3 := n1 _ _ f2
      refine ⟨T0, _, rfl, SqT.of upd_same, rfl, _, _, rfl, _, _, rfl, t2, _, rfl, SqT.of (e3 _ _ ht2), rfl, _, _, rfl, _, _, rfl, rfl, rfl, rfl, ?_⟩
      refine ⟨_, rfl, _, rfl, _, rfl, _, rfl, la, _, _, _, rfl, rfl, SqL.of (e3 _ _ hla), ints_at b1, _, _, rfl, rfl, _, rfl, _, rfl, la, _, _, _, rfl, rfl, SqL.of (e3 _ _ hla), ints_at b2, _, _, rfl, rfl, m, _, rfl, ?_⟩
      have hz : (ledOf m es gs ps)[i]? = some (red m (g + fn ps t - fn ps h)) := by
        unfold ledOf
        rw [List.getElem?_zipWith, hg, hed]
      refine ⟨_, f3, ?_, Same.mut e3 hD, ?_⟩
      · rw [List.length_map, List.length_take]; exact szl _ (by omega)
      · rw [upd_same, take1 hz, List.map_append]
        rfl
    · rintro H2 ⟨e2, f2⟩
      have hlen : (ledOf m es gs ps).length = es.length := by unfold ledOf; rw [List.length_zipWith]; omega
      rw [List.take_of_length_le (by omega)] at f2
      exact k H2 D e2 hD f2
def sp_law_flat : Sp := fun vs H Q _ => ∃ (a : Addr) (L : List Es), vs = [.ref a] ∧ ListAt (LstR PairR) H a L ∧ (∀ es ∈ L, es.length ≤ 60) ∧ L.length ≤ 6 ∧ ∀ H' p, Same H H' → H p = none → ListAt PairR H' p L.flatten → Q (.ref p) H'
theorem ok_law_flat (T : Tx K mg) : FnOk P w K mg base CX0 1 T.law_flat.f T.law_flat.fd N_law_flat_ps sp_law_flat := by
  refine T.law_flat.F.ok sc_law_flat (fun vs H Q E h => ?_) (fun cdv A outer s H vs Q E hr h => ?_)
  · obtain ⟨a, L, rfl, ha, h60, h6, k⟩ := h
    rfl
  · obtain ⟨a, L, rfl, ha, h60, h6, k⟩ := h
    have hu := hu_of hr
    refine ⟨_, PSs.nox (pss_cons (ps_set (i := 1) sc_law_flat.nd rfl (by first | exact Or.inl rfl | exact Or.inr rfl) (pe_lst pa_nil))
      (pss_cons (ps_for PassesOwn.never rfl (pi_list (pv 0)) (pg_name (i := 2) sc_law_flat.nd rfl (by first | exact Or.inl rfl | exact Or.inr rfl))
        (pss_one (ps_set (i := 1) sc_law_flat.nd rfl (by first | exact Or.inl rfl | exact Or.inr rfl) (pe_op op_cat (pv 1) (pv 2)))))
      (pss_one (ps_ret (pv 1))))), ?_⟩
    obtain ⟨xs, h1, h2⟩ := id ha
    have hxl := Paired.length h2
    refine ⟨Nat.zero_le _, fun f0 hf0 => ?_⟩
    have n1 : Same H (upd H f0 (.lst [])) := Same.new hf0
    refine ⟨_, rfl, a, rfl, ⟨_, SqL.of (n1 _ _ h1)⟩, for_list (K := K) (a := a) (xs := xs) (fun i σ H2 => ∃ (f : Addr) (u : Option V), σ = [some (.ref a), some (.ref f), u] ∧ Same H H2 ∧ H f = none ∧ ListAt PairR H2 f (L.take i).flatten) ⟨f0, none, rfl, n1, hf0, [], upd_same, .nil⟩ (fun i σ H2 _ ⟨_, _, _, e, _⟩ => SqL.of (e _ _ h1)) ?_ ?_⟩
    · rintro i x σ H2 hi ⟨f, u, rfl, e2, hf, hF⟩
      obtain ⟨es, hes, a2, rfl, ha2⟩ := Paired.at2 h2 hi
      obtain ⟨zs, z1, z2⟩ := id hF
      obtain ⟨ys, y1, y2⟩ := ha2.same m_Pair e2
      have hil := (List.getElem?_eq_some_iff.mp hes).1
      refine ⟨_, rfl, _, rfl, f, a2, _, _, rfl, rfl, z1, y1, ?_, fun q hq => ?_⟩
      · rw [Paired.length z2, Paired.length y2]
        have := flat_le h60 i
        have := h60 es (List.mem_of_getElem? hes)
        exact sz _ (by omega)
      have n2 : Same H2 (upd H2 q (.lst (zs ++ ys))) := Same.new hq
      refine ⟨q, _, rfl, e2.trans n2, e2.free hq, ?_⟩
      rw [take_flat hes]
      exact ⟨_, upd_same, Paired.mono m_Pair n2 (Paired.app z2 y2)⟩
    · rintro σ H2 ⟨f, u, rfl, e2, hf, hF⟩
      rw [hxl, List.take_length] at hF
      exact ⟨_, rfl, k H2 f e2 hf hF⟩
def sp_law_goal : Sp := fun vs H Q _ => ∃ (p pa oa la : Addr) (m : Int) (es : Es) (gs ps : List Int), vs = [.ref p, .ref pa, .int m, .ref oa, .ref la] ∧ PoolAt H p ∧ ListAt PairR (Del H p) pa es ∧ ListAt IntR (Del H p) oa gs ∧ ListAt IntR (Del H p) la ps ∧ gs.length = es.length ∧ EdOk ps.length es ∧ es.length ≤ 60 ∧ ModOk m ∧
  ∀ H' a, Pl p H H' → Q (.ref a) H'
theorem ok_law_goal (T : Tx K mg) : FnOk P w K mg base CX0 3 T.law_goal.f T.law_goal.fd N_law_goal_ps sp_law_goal := by
  have G_law_led := ok_law_led (P := P) (w := w) (base := base) T
  have G_law_residue := ok_law_residue (P := P) (w := w) (base := base) T
  have G_law_take := ok_law_take (P := P) (w := w) (base := base) T
  refine T.law_goal.F.ok sc_law_goal (fun vs H Q E h => ?_) (fun cdv A outer s H vs Q E hr h => ?_)
  · obtain ⟨p, pa, oa, la, m, es, gs, ps, rfl, hp, hpa, hoa, hla, hl, he, h60, hm, k⟩ := h
    rfl
  · obtain ⟨p, pa, oa, la, m, es, gs, ps, rfl, hp, hpa, hoa, hla, hl, he, h60, hm, k⟩ := h
    have hu := hu_of hr
    refine ⟨_, PSs.nox (pss_cons (ps_set (i := 5) sc_law_goal.nd rfl (by first | exact Or.inl rfl | exact Or.inr rfl) (pe_call G_law_led (hr.mono (by decide)) rfl T.law_led.m T.law_led.F.kp T.law_led.b .nil pass0 (pa_cons (pv 1) (pa_cons (pv 2) (pa_cons (pv 3) (pa_cons (pv 4) pa_nil))))))
      (pss_cons (ps_if (PW.pt (pw_and (pt_cmpR (op_neD hr.units) (pv 1) (pe_lst pa_nil) (nomark _)) (pw_and1 (pt_cmpR op_eq (pe_call G_law_take (hr.mono (by decide)) rfl T.law_take.m T.law_take.F.kp T.law_take.b .nil pass0 (pa_cons (pv 0) (pa_cons pe_int pa_nil))) pe_int (nomark _))))) (pss_cons (ps_set (i := 6) sc_law_goal.nd rfl (by first | exact Or.inl rfl | exact Or.inr rfl) (pe_call G_law_take (hr.mono (by decide)) rfl T.law_take.m T.law_take.F.kp T.law_take.b .nil pass0 (pa_cons (pv 0) (pa_cons (pe_callB call_len_seq (by rfl) T.n_len (by decide +kernel) (pa_cons (pv 1) pa_nil)) pa_nil))))
        (pss_one (ps_asg (pe_call G_law_residue (hr.mono (by decide)) rfl T.law_residue.m T.law_residue.F.kp T.law_residue.b .nil pass0 (pa_cons (pv 0) (pa_cons (pv 2) pa_nil))) (pg_sub (pv 5) (pv 6) set_list)))) pss_nil)
      (pss_one (ps_ret (pv 5))))), ?_⟩
    refine ⟨_, rfl, _, rfl, _, rfl, _, rfl, pa, oa, la, m, es, gs, ps, rfl, out_list m_Pair hpa, (out_list m_Int hoa).ints, (out_list m_Int hla).ints, hl, he, h60, fun H1 nw e1 hnw h1 => ?_⟩
    have q1 := Pl.of e1 hp
    have hne := hp.ne hnw
    have hpa1 := q1.list m_Pair hpa
    refine ⟨_, rfl, Nat.zero_le _, fun z hz => ?_⟩
    have q2 := Pl.new (o := .lst []) q1.pool hz
    have hpa2 := q2.list m_Pair hpa1
    have h2 := q2.at_ h1 hne
    have hz2 : upd H1 z (.lst []) z = some (.lst []) := upd_same
    have q02 := q1.trans q2
    generalize upd H1 z (.lst []) = H2 at q2 hpa2 h2 hz2 q02
    refine ⟨_, _, dp_prs (out_list m_Pair hpa2), dp_nil hz2, lay_shaped (lay_prs es) (by decide), lay_shaped (k := 1) (lay_list fun _ h => nomatch h) (by decide), _, rfl, ?_⟩
    rw [eqv_prs_nil]
    by_cases c : es = []
    · refine iteNS c ?_
      exact ⟨_, rfl, k H2 nw q02⟩
    · rw [decide_eq_false c]
      refine iteT ?_
      have hpos : 0 < es.length := List.length_pos_iff.mpr c
      refine ⟨_, rfl, p, 3, rfl, q2.pool, by decide, by decide, fun H3 r e3 r0 r1 => ?_⟩
      refine ⟨rfl, _, rfl, ?_⟩
      refine ite2 (fun c => ?_) (fun c => ?_)
      · obtain ⟨xs, y1, y2⟩ := out_list m_Pair (e3.list m_Pair hpa2)
        have hyl := Paired.length y2
        refine ⟨_, rfl, _, rfl, _, _, rfl, .inl (SqL.of y1), p, _, rfl, e3.pool, by omega, by omega, fun H4 t e4 t0 t1 => ?_⟩
        obtain ⟨t, rfl⟩ := Int.eq_ofNat_of_zero_le t0
        refine ⟨_, rfl, _, rfl, p, m, rfl, e4.pool, hm, fun H5 v e5 hv => ?_⟩
        have h5 := e5.at_ (e4.at_ (e3.at_ h2 hne) hne) hne
        refine ⟨_, rfl, _, rfl, nw, _, _, t, rfl, rfl, h5, ixN_nat ?_ ?_, ?_⟩
        · rw [List.length_map]
          unfold ledOf
          rw [List.length_zipWith]
          omega
        · rw [List.length_map]
          unfold ledOf
          rw [List.length_zipWith]
          omega
        exact ⟨_, rfl, k _ nw (Pl.mut (q02.trans (e3.trans (e4.trans e5))) hnw hne)⟩
      · exact ⟨_, rfl, k H3 nw (q02.trans e3)⟩
end
end Tt
end
section
set_option maxHeartbeats 4000000
namespace Tt
/-! ### connected by pairs -/
inductive Con (ps : Es) (u : Nat) : Nat → Prop
  | rf : Con ps u u
  | fw {t h : Nat} : Con ps u t → (t, h) ∈ ps → Con ps u h
  | bw {t h : Nat} : Con ps u h → (t, h) ∈ ps → Con ps u t
theorem Con.trans {ps : Es} {u v w : Nat} (a : Con ps u v) (b : Con ps v w) : Con ps u w := by
  induction b with
  | rf => exact a
  | fw _ h ih => exact .fw ih h
  | bw _ h ih => exact .bw ih h
theorem Con.symm {ps : Es} {u v : Nat} (a : Con ps u v) : Con ps v u := by
  induction a with
  | rf => exact .rf
  | fw _ h ih => exact Con.trans (.bw .rf h) ih
  | bw _ h ih => exact Con.trans (.fw .rf h) ih
theorem Con.mono {ps ps' : Es} (h : ∀ e ∈ ps, e ∈ ps') {u v : Nat} (a : Con ps u v) : Con ps' u v := by
  induction a with
  | rf => exact .rf
  | fw _ e ih => exact .fw ih (h _ e)
  | bw _ e ih => exact .bw ih (h _ e)
theorem Con.lt {n : Nat} {ps : Es} (h : EdOk n ps) {u v : Nat} (hu : u < n) (a : Con ps u v) : v < n := by
  cases a with
  | rf => exact hu
  | fw _ e => exact (h _ e).2
  | bw _ e => exact (h _ e).1
theorem Con.sol {m : Int} {ps : Es} {q q' : Nat → Int} (h : ∀ e ∈ ps, m ∣ (q e.1 - q e.2) - (q' e.1 - q' e.2)) {u v : Nat} (c : Con ps u v) : m ∣ (q u - q v) - (q' u - q' v) := by
  induction c with
  | rf => exact ⟨0, by omega⟩
  | fw _ e ih =>
    have := h _ e
    exact dvd_lin2 ih this (by dsimp only; omega)
  | bw _ e ih =>
    have := h _ e
    exact dvd_lin2' ih this (by dsimp only; omega)
/-! ### the least marks -/
def gn (g : List Nat) (v : Nat) : Nat := g.getD v 0
theorem gn_at {g : List Nat} {v : Nat} (h : v < g.length) : g[v]? = some (gn g v) := by
  unfold gn
  rw [List.getD_eq_getElem?_getD, List.getElem?_eq_getElem h]
  rfl
structure MI (n : Nat) (ps : Es) (g : List Nat) : Prop where
  len : g.length = n
  iff : ∀ u v, u < n → v < n → (gn g u = gn g v ↔ Con ps u v)
  le : ∀ v, v < n → gn g v ≤ v
  root : ∀ v, v < n → gn g (gn g v) = gn g v
theorem Con.nil {u v : Nat} (c : Con [] u v) : u = v := by
  cases c with
  | rf => rfl
  | fw _ h => cases h
  | bw _ h => cases h
theorem MI.start (n : Nat) : MI n [] (List.range n) := by
  have e : ∀ v, v < n → gn (List.range n) v = v := fun v hv => by
    have := gn_at (g := List.range n) (v := v) (by rw [List.length_range]; exact hv)
    rw [List.getElem?_range hv] at this
    exact (Option.some.inj this).symm
  refine ⟨List.length_range, fun u v hu hv => ?_, fun v hv => by rw [e v hv]; exact Nat.le_refl _, fun v hv => by rw [e v hv, e v hv]⟩
  rw [e u hu, e v hv]
  exact ⟨fun h => h ▸ .rf, Con.nil⟩
/-- a pair more -/
def mark2 (g : List Nat) (lo hi : Nat) : List Nat := g.map fun x => if x = hi then lo else x
theorem gn_mark {g : List Nat} {lo hi v : Nat} (h : v < g.length) : gn (mark2 g lo hi) v = if gn g v = hi then lo else gn g v := by
  have h2 : v < (mark2 g lo hi).length := by unfold mark2; rw [List.length_map]; exact h
  have e := gn_at h2
  unfold mark2 at e ⊢
  rw [List.getElem?_map, gn_at h] at e
  exact (Option.some.inj e).symm
theorem MI.step {n : Nat} {ps : Es} {g : List Nat} (I : MI n ps g) (hp : EdOk n ps) {t h lo hi : Nat} (ht : t < n) (hh : h < n) (hl : (gn g t = lo ∧ gn g h = hi) ∨ (gn g t = hi ∧ gn g h = lo)) (hle : lo ≤ hi) : MI n (ps ++ [(t, h)]) (mark2 g lo hi) := by
  have hg : ∀ v, v < n → gn (mark2 g lo hi) v = if gn g v = hi then lo else gn g v := fun v hv => gn_mark (by rw [I.len]; exact hv)
  have lon : lo < n := by
    rcases hl with ⟨a, _⟩ | ⟨_, b⟩
    · have := I.le t ht; omega
    · have := I.le h hh; omega
  have rlo : gn g lo = lo := by
    rcases hl with ⟨a, _⟩ | ⟨_, b⟩
    · rw [← a]; exact I.root t ht
    · rw [← b]; exact I.root h hh
  have mo : ∀ e ∈ ps, e ∈ ps ++ [(t, h)] := fun e he => List.mem_append_left _ he
  have new : (t, h) ∈ ps ++ [(t, h)] := List.mem_append_right _ (List.mem_singleton.mpr rfl)
  have hp2 : EdOk n (ps ++ [(t, h)]) := fun e he => by
    rcases List.mem_append.mp he with q | q
    · exact hp e q
    · rw [List.mem_singleton.mp q]; exact ⟨ht, hh⟩
  have th : gn (mark2 g lo hi) t = gn (mark2 g lo hi) h := by
    rw [hg t ht, hg h hh]
    rcases hl with ⟨a, b⟩ | ⟨a, b⟩ <;> rw [a, b] <;> simp
  refine ⟨by unfold mark2; rw [List.length_map]; exact I.len, fun u v hu hv => ⟨fun e => ?_, fun c => ?_⟩, fun v hv => ?_, fun v hv => ?_⟩
  · -- marks of lo and hi meet over the new pair
    have cross : ∀ x y, x < n → y < n → gn g x = hi → gn g y = lo → Con (ps ++ [(t, h)]) x y := fun x y hx hy ex ey => by
      rcases hl with ⟨a, b⟩ | ⟨a, b⟩
      · have c1 : Con ps x h := (I.iff x h hx hh).mp (by rw [ex, b])
        have c2 : Con ps t y := (I.iff t y ht hy).mp (by rw [a, ey])
        exact Con.trans (.bw (c1.mono mo) new) (c2.mono mo)
      · have c1 : Con ps x t := (I.iff x t hx ht).mp (by rw [ex, a])
        have c2 : Con ps h y := (I.iff h y hh hy).mp (by rw [b, ey])
        exact Con.trans (.fw (c1.mono mo) new) (c2.mono mo)
    rw [hg u hu, hg v hv] at e
    by_cases c1 : gn g u = hi
    · by_cases c2 : gn g v = hi
      · exact ((I.iff u v hu hv).mp (by rw [c1, c2])).mono mo
      · rw [if_pos c1, if_neg c2] at e
        exact cross u v hu hv c1 e.symm
    · by_cases c2 : gn g v = hi
      · rw [if_neg c1, if_pos c2] at e
        exact (cross v u hv hu c2 e).symm
      · rw [if_neg c1, if_neg c2] at e
        exact ((I.iff u v hu hv).mp e).mono mo
  · clear hv
    have one : ∀ {a b : Nat}, (a, b) ∈ ps ++ [(t, h)] → gn (mark2 g lo hi) a = gn (mark2 g lo hi) b := fun {a b} he => by
      rcases List.mem_append.mp he with q | q
      · obtain ⟨x, y⟩ := hp _ q
        have : gn g a = gn g b := (I.iff a b x y).mpr (.fw .rf q)
        rw [hg a x, hg b y, this]
      · cases List.mem_singleton.mp q
        exact th
    induction c with
    | rf => rfl
    | fw _ he ih => exact ih.trans (one he)
    | bw _ he ih => exact ih.trans (one he).symm
  · rw [hg v hv]
    have := I.le v hv
    split
    · omega
    · exact this
  · have hv2 : gn g v < n := Nat.lt_of_le_of_lt (I.le v hv) hv
    rw [hg v hv]
    by_cases c : gn g v = hi
    · rw [if_pos c, hg lo lon, rlo]
      split <;> rfl
    · rw [if_neg c, hg _ hv2, I.root v hv, if_neg c]
/-- the least of its component -/
def Root (n : Nat) (ps : Es) (v : Nat) : Prop := v < n ∧ ∀ u, u < n → Con ps u v → v ≤ u
theorem MI.mark {n : Nat} {ps : Es} {g : List Nat} (I : MI n ps g) {r : Nat} : (∃ v, v < n ∧ gn g v = r) ↔ Root n ps r := by
  constructor
  · rintro ⟨v, hv, rfl⟩
    have hv2 : gn g v < n := Nat.lt_of_le_of_lt (I.le v hv) hv
    refine ⟨hv2, fun u hu c => ?_⟩
    have e := (I.iff u (gn g v) hu hv2).mpr c
    rw [I.root v hv] at e
    rw [← e]
    exact I.le u hu
  · rintro ⟨hr, h⟩
    have hr2 : gn g r < n := Nat.lt_of_le_of_lt (I.le r hr) hr
    refine ⟨r, hr, Nat.le_antisymm (I.le r hr) (h _ hr2 ((I.iff (gn g r) r hr2 hr).mp (I.root r hr)))⟩
/-- groups by their least nodes -/
def GOk (n : Nat) (ps : Es) (G : List (List Nat)) : Prop := ∃ R : List Nat, R.Nodup ∧ (∀ v, v ∈ R ↔ Root n ps v) ∧ G.length = R.length ∧ ∀ g ∈ G, g ≠ [] ∧ g.length ≤ n ∧ ∀ u ∈ g, ∀ v ∈ g, u < n ∧ v < n ∧ Con ps u v
theorem nodup_sub : ∀ {l D : List Nat}, l.Nodup → (∀ x ∈ l, x ∈ D) → l.length ≤ D.length
  | [], _, _, _ => Nat.zero_le _
  | x :: l, D, hn, hs => by
    obtain ⟨h1, h2⟩ := List.nodup_cons.mp hn
    have hx : x ∈ D := hs x List.mem_cons_self
    have ih := nodup_sub (l := l) (D := D.erase x) h2 fun y hy => by
      have hne : y ≠ x := fun e => h1 (e ▸ hy)
      exact (List.mem_erase_of_ne hne).2 (hs y (List.mem_cons_of_mem _ hy))
    have e := List.length_erase_of_mem hx
    have hp : 0 < D.length := List.length_pos_of_mem hx
    rw [List.length_cons]
    omega
theorem nodup_lt {l D : List Nat} (hn : l.Nodup) (hs : ∀ x ∈ l, x ∈ D) {y : Nat} (hy : y ∈ D) (hny : y ∉ l) : l.length < D.length := by
  have h := nodup_sub (l := l) (D := D.erase y) hn fun x hx => (List.mem_erase_of_ne (show x ≠ y from fun e => hny (e ▸ hx))).2 (hs x hx)
  have e := List.length_erase_of_mem hy
  have hp : 0 < D.length := List.length_pos_of_mem hy
  omega
theorem root_of {n : Nat} {ps : Es} (hp : EdOk n ps) : ∀ v, v < n → ∃ r, Root n ps r ∧ Con ps v r := by
  intro v
  induction v using Nat.strongRecOn with
  | ind v ih =>
    intro hv
    by_cases c : ∃ u, u < v ∧ Con ps v u
    · obtain ⟨u, h1, h2⟩ := c
      obtain ⟨r, h3, h4⟩ := ih u h1 (by omega)
      exact ⟨r, h3, h2.trans h4⟩
    · refine ⟨v, ⟨hv, fun u hu h => ?_⟩, .rf⟩
      by_cases z : u < v
      · exact absurd ⟨u, z, h.symm⟩ c
      · omega
/-- one pair fewer: more groups just if its ends fall apart -/
theorem groups_more {n : Nat} {ps ps' : Es} {G G' : List (List Nat)} {t h : Nat} (hp : EdOk n ps) (hm : ∀ e, e ∈ ps ↔ e ∈ ps' ∨ e = (t, h)) (hG : GOk n ps G) (hG' : GOk n ps' G') : G.length < G'.length ↔ ¬ Con ps' t h := by
  obtain ⟨R, n1, m1, l1, _⟩ := hG
  obtain ⟨R', n2, m2, l2, _⟩ := hG'
  rw [l1, l2]
  have mo : ∀ e ∈ ps', e ∈ ps := fun e he => (hm e).mpr (.inl he)
  have hp' : EdOk n ps' := fun e he => hp e (mo e he)
  obtain ⟨ht, hh⟩ := hp (t, h) ((hm _).mpr (.inr rfl))
  have down : ∀ v, Root n ps v → Root n ps' v := fun v ⟨a, b⟩ => ⟨a, fun u hu c => b u hu (c.mono mo)⟩
  constructor
  · intro lt c
    have same : ∀ {u v}, Con ps u v → Con ps' u v := fun {u v} q => by
      induction q with
      | rf => exact .rf
      | fw _ e ih =>
        rcases (hm _).mp e with z | z
        · exact .fw ih z
        · cases z
          exact ih.trans c
      | bw _ e ih =>
        rcases (hm _).mp e with z | z
        · exact .bw ih z
        · cases z
          exact ih.trans c.symm
    have := nodup_sub (l := R') (D := R) n2 fun v hv => by
      obtain ⟨a, b⟩ := (m2 v).mp hv
      exact (m1 v).mpr ⟨a, fun u hu q => b u hu (same q)⟩
    omega
  · intro nc
    obtain ⟨r, r1, r2⟩ := root_of hp' t ht
    obtain ⟨s, s1, s2⟩ := root_of hp' h hh
    have hrs : r ≠ s := fun e => nc (r2.trans (by rw [e]; exact s2.symm))
    have edge : Con ps r s := (r2.symm.mono mo).trans ((Con.fw .rf ((hm _).mpr (.inr rfl))).trans (s2.mono mo))
    have sub : ∀ x ∈ R, x ∈ R' := fun x hx => (m2 x).mpr (down x ((m1 x).mp hx))
    by_cases c : r < s
    · refine nodup_lt n1 sub ((m2 s).mpr s1) fun z => ?_
      have := ((m1 s).mp z).2 r r1.1 edge
      omega
    · refine nodup_lt n1 sub ((m2 r).mpr r1) fun z => ?_
      have := ((m1 r).mp z).2 s s1.1 edge.symm
      omega
end Tt
end
section
set_option maxHeartbeats 4000000
namespace Tt
open PySem PySem.Spec PyProof.Rows L2
theorem EdOk.take {n : Nat} {ps : Es} (h : EdOk n ps) (i : Nat) : EdOk n (ps.take i) := fun e he => h e (List.mem_of_mem_take he)
theorem nv_int (g : List Nat) : nv g = (g.map fun x : Nat => (x : Int)).map V.int := by
  rw [List.map_map]; rfl
section
variable {P : Program} {w : World} {K : PySem.W.Frag} {mg : Str → Option Value} {base : Heap}
def sp_law_groups : Sp := fun vs H Q _ => ∃ (n : Nat) (a : Addr) (ps : Es), vs = [.int n, .ref a] ∧ ListAt PairR H a ps ∧ EdOk n ps ∧ 1 ≤ n ∧ n ≤ 30 ∧ ∀ H' p G, Same H H' → H p = none → ListAt (LstR NatR) H' p G → GOk n ps G → Q (.ref p) H'
theorem ok_law_groups (T : Tx K mg) : FnOk P w K mg base CX0 1 T.law_groups.f T.law_groups.fd N_law_groups_ps sp_law_groups := by
  refine T.law_groups.F.ok sc_law_groups (fun vs H Q E h => ?_) (fun cdv A outer s H vs Q E hr h => ?_)
  · obtain ⟨n, a, ps, rfl, ha, hp, hn1, hn, k⟩ := h
    rfl
  · obtain ⟨n, a, ps, rfl, ha, hp, hn1, hn, k⟩ := h
    have hu := hu_of hr
    refine ⟨_, PSs.nox (pss_cons (ps_set (i := 2) sc_law_groups.nd rfl (by first | exact Or.inl rfl | exact Or.inr rfl) (pe_listRg rfl rfl T.n_list (prg_1 rfl T.n_range (pv 0))))
      (pss_cons (ps_for PassesOwn.never rfl (pi_list (pv 1)) (pg_tup rfl (pgs_cons (pg_name (i := 3) sc_law_groups.nd rfl (by first | exact Or.inl rfl | exact Or.inr rfl)) (pgs_cons (pg_name (i := 4) sc_law_groups.nd rfl (by first | exact Or.inl rfl | exact Or.inr rfl)) pgs_nil)))
        (pss_cons (ps_asg (pe_tup (pa_cons (pe_callB (call_min2 rfl) (by rfl) T.n_min (by decide +kernel) (pa_cons (pe_ix ix_list (pv 2) (pv 3) (fun _ _ => rfl)) (pa_cons (pe_ix ix_list (pv 2) (pv 4) (fun _ _ => rfl)) pa_nil))) (pa_cons (pe_callB (call_max2 rfl) (by rfl) T.n_max (by decide +kernel) (pa_cons (pe_ix ix_list (pv 2) (pv 3) (fun _ _ => rfl)) (pa_cons (pe_ix ix_list (pv 2) (pv 4) (fun _ _ => rfl)) pa_nil))) pa_nil))) (pg_tup rfl (pgs_cons (pg_name (i := 5) sc_law_groups.nd rfl (by first | exact Or.inl rfl | exact Or.inr rfl)) (pgs_cons (pg_name (i := 6) sc_law_groups.nd rfl (by first | exact Or.inl rfl | exact Or.inr rfl)) pgs_nil))))
        (pss_one (ps_set (i := 2) sc_law_groups.nd rfl (by first | exact Or.inl rfl | exact Or.inr rfl) (pe_lc (own := [("_law_mark", 7)]) (g := gName 7) (tt := tYes) rfl sc_law_groups.nd (pi_list (pv 2)) (blkOk_by (N := N_law_groups) (sc := defScope (top 61)) (by decide +kernel)) (fun _ _ _ _ _ => (pg_name (i := 7) sc_law_groups.nd rfl (by first | exact Or.inl rfl | exact Or.inr rfl))) (fun _ _ _ _ _ => pts_nil) (fun _ _ _ _ _ => (pe_ifExp (pt_cmpR op_eq (pv 7) (pv 6) (nomark _)) (pv 5) (pv 7))))))))
      (pss_cons (ps_set (i := 8) sc_law_groups.nd rfl (by first | exact Or.inl rfl | exact Or.inr rfl) (pe_lst pa_nil))
      (pss_cons (ps_for PassesOwn.never rfl (pi_list (pe_callB (cr_sortedSet rfl) (by rfl) T.n_sorted (by decide +kernel) (pa_cons (pe_callTy (cr_setL rfl) (by rfl) T.n_set (by decide +kernel) (pa_cons (pv 2) pa_nil)) pa_nil))) (pg_name (i := 7) sc_law_groups.nd rfl (by first | exact Or.inl rfl | exact Or.inr rfl))
        (pss_one (ps_expr (pe_bm PySem.F.plainAttrs_list PySem.F.slot_list_append PySem.F.type_list_append mt_append (pv 8) (pa_cons (pe_lc (own := [("_law_spot", 9)]) (g := gName 9) rfl sc_law_groups.nd (pi_range1 rfl T.n_range (pa_cons (pv 0) pa_nil)) (blkOk_by (N := N_law_groups) (sc := defScope (top 61)) (by decide +kernel)) (fun _ _ _ _ _ => (pg_name (i := 9) sc_law_groups.nd rfl (by first | exact Or.inl rfl | exact Or.inr rfl))) (fun _ _ _ _ _ => (pts_one (pt_cmpR op_eq (pe_ix (ix_listB (K := K) rfl) (pv 2) (pv 9) (fun _ _ => rfl)) (pv 7) (nomark _)))) (fun _ _ _ _ _ => (pv 9))) pa_nil)))))
      (pss_one (ps_ret (pv 8))))))), ?_⟩
    obtain ⟨xs, h1, h2⟩ := id ha
    have hxl := Paired.length h2
    refine ⟨_, rfl, _, rfl, ⟨by omega, by omega, by omega, by omega, by omega⟩, fun gl0 hgl0 => ?_⟩
    rw [rg_nv]
    have s1 : Same H (upd H gl0 (.lst (nv (List.range n)))) := Same.new hgl0
    refine ⟨_, rfl, a, rfl, ⟨_, SqL.of (s1 _ _ h1)⟩, for_list (K := K) (a := a) (xs := xs) (fun i σ H2 => ∃ (g : List Nat) (gl : Addr) (u3 u4 u5 u6 u7 u8 u9 : Option V), σ = [some (.int n), some (.ref a), some (.ref gl), u3, u4, u5, u6, u7, u8, u9] ∧ Same H H2 ∧
        H2 gl = some (.lst (nv g)) ∧ MI n (ps.take i) g)
      ⟨List.range n, gl0, none, none, none, none, none, none, none, rfl, s1, upd_same, by rw [List.take_zero]; exact MI.start n⟩ (fun i σ H2 _ ⟨_, _, _, _, _, _, _, _, _, _, e, _⟩ => SqL.of (e _ _ h1)) ?_ ?_⟩
    · rintro i x σ H2 hi ⟨g, gl, u3, u4, u5, u6, u7, u8, u9, rfl, e, hg, I⟩
      obtain ⟨⟨t, hd⟩, hed, t2, rfl, ht2⟩ := Paired.at2 h2 hi
      obtain ⟨b1, b2⟩ := hp.at_ hed
      have c1 := gn_at (g := g) (v := t) (by rw [I.len]; exact b1)
      have c2 := gn_at (g := g) (v := hd) (by rw [I.len]; exact b2)
      refine ⟨t2, _, rfl, SqT.of (e _ _ ht2), rfl, _, _, rfl, _, _, rfl, rfl, ?_⟩
      refine ⟨_, rfl, _, rfl, gl, _, _, _, rfl, rfl, SqL.of hg, nv_at c1, _, rfl, _, rfl, gl, _, _, _, rfl, rfl, SqL.of hg, nv_at c2, _, _, rfl, ?_⟩
      refine ⟨_, rfl, _, rfl, gl, _, _, _, rfl, rfl, SqL.of hg, nv_at c1, _, rfl, _, rfl, gl, _, _, _, rfl, rfl, SqL.of hg, nv_at c2, _, _, rfl, (by show 2 ≤ sizeLine; decide), fun T0 hT0 => ?_⟩
      obtain ⟨lo, hi', el, eh, hl, hle⟩ : ∃ lo hi' : Nat, (if (gn g hd : Int) < gn g t then (gn g hd : Int) else gn g t) = (lo : Int) ∧ (if (gn g hd : Int) > gn g t then (gn g hd : Int) else gn g t) = (hi' : Int) ∧ ((gn g t = lo ∧ gn g hd = hi') ∨ (gn g t = hi' ∧ gn g hd = lo)) ∧ lo ≤ hi' := by
        by_cases c : gn g t ≤ gn g hd
        · refine ⟨gn g t, gn g hd, by split <;> omega, by split <;> omega, .inl ⟨rfl, rfl⟩, c⟩
        · refine ⟨gn g hd, gn g t, by split <;> omega, by split <;> omega, .inr ⟨rfl, rfl⟩, by omega⟩
      rw [el, eh]
      have n1 : Same H2 (upd H2 T0 (.tup [.int lo, .int hi'])) := Same.new hT0
      refine ⟨T0, _, rfl, SqT.of upd_same, rfl, _, _, rfl, _, _, rfl, rfl, ?_⟩
      have e3 := e.trans n1
      have hg3 := n1 _ _ hg
      generalize upd H2 T0 (.tup [.int lo, .int hi']) = H3 at n1 e3 hg3
      refine ⟨_, rfl, gl, rfl, ⟨_, SqL.of hg3⟩, fun D hD => ?_⟩
      refine lc_list (K := K) (a := gl) (xs := nv g) (fun j H7 => Same H3 H7 ∧ H7 D = some (.lst (nv ((mark2 g lo hi').take j)))) ⟨Same.new hD, upd_same⟩ (fun j H7 _ ⟨e7, _⟩ => SqL.of (e7 _ _ hg3)) ?_ ?_
      · rintro j q H7 hj ⟨e7, h7⟩
        obtain ⟨gj, hgj, rfl⟩ := nv_get hj
        have hjl := (List.getElem?_eq_some_iff.mp hgj).1
        have gl30 : g.length ≤ 30 := by rw [I.len]; exact hn
        have hlen : (nv ((mark2 g lo hi').take j)).length < sizeLine := by
          rw [List.length_map, List.length_take]
          exact szl _ (by omega)
        have hm : (mark2 g lo hi')[j]? = some (if gj = hi' then lo else gj) := by unfold mark2; rw [List.getElem?_map, hgj]; rfl
        refine ⟨rfl, ?_⟩
        refine ⟨_, rfl, _, rfl, rfl, _, rfl, ?_⟩
        by_cases c3 : gj = hi'
        · subst c3
          rw [decide_eq_true rfl]
          refine iteT ?_
          refine ⟨_, rfl, _, h7, hlen, Same.mut e7 hD, ?_⟩
          rw [upd_same, tk_snoc hm, if_pos rfl, nv_snoc]
        · rw [decide_eq_false fun z => c3 (nv_inj z)]
          refine iteF ?_
          refine ⟨_, rfl, _, h7, hlen, Same.mut e7 hD, ?_⟩
          rw [upd_same, tk_snoc hm, if_neg c3, nv_snoc]
      · rintro H7 ⟨e7, h7⟩
        have hm2 : (mark2 g lo hi').take (nv g).length = mark2 g lo hi' := List.take_of_length_le (by unfold mark2; rw [List.length_map, List.length_map]; exact Nat.le_refl _)
        rw [hm2] at h7
        refine ⟨_, D, _, _, _, _, _, _, _, rfl, e3.trans e7, h7, ?_⟩
        rw [take1 hed]
        exact I.step (hp.take i) b1 b2 hl hle
    · rintro σ H2 ⟨g, gl, u3, u4, u5, u6, u7, u8, u9, rfl, e, hg, I⟩
      rw [hxl, List.take_length] at I
      refine ⟨Nat.zero_le _, fun fl hfl => ?_⟩
      have n1 : Same H2 (upd H2 fl (.lst [])) := Same.new hfl
      have hfln := e.free hfl
      have hglf : gl ≠ fl := ne_of_none hg hfl
      have e3 := e.trans n1
      have hg3 := n1 _ _ hg
      have hf3 : upd H2 fl (.lst []) fl = some (.lst []) := upd_same
      generalize upd H2 fl (.lst []) = H3 at n1 e3 hg3 hf3
      refine ⟨_, rfl, gl, g.map fun x : Nat => (x : Int), rfl, SqL.of (by rw [← nv_int]; exact hg3), by rw [List.length_map, I.len]; omega, fun sa c hsa hc => ?_⟩
      rw [List.length_map, I.len] at hc
      refine ⟨sa, _, c, rfl, upd_same, by omega, fun ns p hpw hmem hlen hp0 => ?_⟩
      have n2 : Same H3 (upd H3 sa (SetO w sa (fun j => decide (j ∈ g.map fun x : Nat => (x : Int))) c)) := Same.new hsa
      have n3 : Same (upd H3 sa (SetO w sa (fun j => decide (j ∈ g.map fun x : Nat => (x : Int))) c)) (upd (upd H3 sa (SetO w sa (fun j => decide (j ∈ g.map fun x : Nat => (x : Int))) c)) p (.lst (ns.map V.int))) := Same.new hp0
      have e5 := e3.trans (n2.trans n3)
      have hg5 := n3 _ _ (n2 _ _ hg3)
      have hf5 := n3 _ _ (n2 _ _ hf3)
      have hpf : p ≠ fl := (ne_of_none (n2 _ _ hf3) hp0).symm
      have hp5 : (upd (upd H3 sa (SetO w sa (fun j => decide (j ∈ g.map fun x : Nat => (x : Int))) c)) p (.lst (ns.map V.int))) p = some (.lst (ns.map V.int)) := upd_same
      have hroot : ∀ k ∈ ns, ∃ r : Nat, k = (r : Int) ∧ Root n ps r := fun k hk => by
        have h := of_decide_eq_true ((hmem k).mp hk)
        obtain ⟨r, hr, rfl⟩ := List.mem_map.mp h
        obtain ⟨v, hv⟩ := List.getElem?_of_mem hr
        have hvl := (List.getElem?_eq_some_iff.mp hv).1
        have e := gn_at hvl
        rw [hv] at e
        exact ⟨r, rfl, I.mark.mp ⟨v, by rw [← I.len]; exact hvl, (Option.some.inj e).symm⟩⟩
      refine ⟨p, rfl, ⟨_, SqL.of hp5⟩, for_list (K := K) (a := p) (xs := ns.map V.int) (fun j σ H6 => ∃ (u3 u4 u5 u6 u7 u9 : Option V) (zs : List V), σ = [some (.int n), some (.ref a), some (.ref gl), u3, u4, u5, u6, u7, some (.ref fl), u9] ∧ Same H H6 ∧ H6 gl = some (.lst (nv g)) ∧ H6 p = some (.lst (ns.map V.int)) ∧ H6 fl = some (.lst zs) ∧
          Paired (LstR NatR (Del H6 fl)) zs ((ns.map fun k => (List.range n).filter fun v => decide ((gn g v : Int) = k)).take j))
        ⟨_, _, _, _, _, _, [], rfl, e5, hg5, hp5, hf5, .nil⟩ (fun j σ H6 _ ⟨_, _, _, _, _, _, _, _, _, _, e, _⟩ => SqL.of e) ?_ ?_⟩
      · rintro j y σ H6 hj ⟨u3, u4, u5, u6, u7, u9, zs, rfl, e6, hg6, hp6, hf6, hz⟩
        obtain ⟨kk, hkj, rfl⟩ := map_at hj
        have hjl := (List.getElem?_eq_some_iff.mp hkj).1
        refine ⟨_, rfl, .inl ⟨rfl, _, SqL.of hf6⟩, ?_⟩
        refine ⟨_, rfl, n, rfl, by omega, by omega, fun D hD => ?_⟩
        refine lc_it (walk_range (lo := 0) (n := (n : Int).toNat)) (fun v H7 => Same H6 H7 ∧ H7 D = some (.lst (nv ((List.range v).filter fun v => decide ((gn g v : Int) = kk))))) ⟨Same.new hD, upd_same⟩ (fun _ _ _ _ => trivial) ?_ ?_
        · rintro v x Hx H7 hv ⟨e7, h7⟩ ⟨rfl, hx⟩
          rw [Int.toNat_natCast] at hv
          have hx : x = V.int (v : Int) := by rw [hx]; show V.int (0 + (v : Int)) = _; rw [Int.zero_add]
          subst hx
          refine ⟨rfl, _, rfl, _, rfl, gl, _, _, _, rfl, rfl, SqL.of (e7 _ _ hg6), nv_at (gn_at (by rw [I.len]; exact hv)), _, rfl, rfl, _, rfl, ?_⟩
          rw [List.range_succ, List.filter_append]
          by_cases cc : (gn g v : Int) = kk
          · rw [decide_eq_true (by rw [cc] : V.int (gn g v : Int) = V.int kk)]
            refine iteT ?_
            refine ⟨_, rfl, _, h7, ?_, Same.mut e7 hD, ?_⟩
            · rw [List.length_map]
              have := List.length_filter_le (fun v => decide ((gn g v : Int) = kk)) (List.range v)
              rw [List.length_range] at this
              exact szl _ (by omega)
            · rw [upd_same]
              have : [v].filter (fun v => decide ((gn g v : Int) = kk)) = [v] := by simp [cc]
              rw [this, nv_snoc]
          · rw [decide_eq_false (fun z => cc (V.int.inj z))]
            refine iteF ?_
            have : [v].filter (fun v => decide ((gn g v : Int) = kk)) = [] := by simp [cc]
            rw [this, List.append_nil]
            exact ⟨e7, h7⟩
        · rintro H7 ⟨e7, h7⟩
          rw [Int.toNat_natCast] at h7
          have hDf : D ≠ fl := (ne_of_none hf6 hD).symm
          refine ⟨fl, _, _, rfl, rfl, e7 _ _ hf6, ?_, ?_⟩
          · rw [Paired.length hz, List.length_take, List.length_map]; exact szl _ (by omega)
          have hDl : LstR NatR (Del H7 fl) (.ref D) ((List.range n).filter fun v => decide ((gn g v : Int) = kk)) := ⟨D, rfl, ListAt.of_nats (by rw [Del.at_ hDf]; exact h7)⟩
          have hz7 := Paired.mono (m_Lst m_Nat) (Del.mono fl e7) hz
          have st : Same (Del H7 fl) (Del (upd H7 fl (.lst (zs ++ [.ref D]))) fl) := fun b o hb => by
            have c1 : b ≠ fl := by rintro rfl; rw [Del.none] at hb; cases hb
            rw [Del.at_ c1] at hb ⊢
            rw [upd_ne c1]
            exact hb
          have hk2 : (ns.map fun k => (List.range n).filter fun v => decide ((gn g v : Int) = k))[j]? = some ((List.range n).filter fun v => decide ((gn g v : Int) = kk)) := by rw [List.getElem?_map, hkj]; rfl
          refine ⟨_, _, _, _, _, _, zs ++ [.ref D], rfl, Same.mut (e6.trans e7) hfln, by rw [upd_ne hglf]; exact e7 _ _ hg6, by rw [upd_ne hpf]; exact e7 _ _ hp6, upd_same, ?_⟩
          rw [take1 hk2]
          exact Paired.mono (m_Lst m_Nat) st (Paired.snoc hz7 hDl)
      · rintro σ H6 ⟨u3, u4, u5, u6, u7, u9, zs, rfl, e6, hg6, hp6, hf6, hz⟩
        rw [List.take_of_length_le (by rw [List.length_map, List.length_map]; exact Nat.le_refl _)] at hz
        refine ⟨_, rfl, k H6 fl _ e6 hfln ⟨zs, hf6, Paired.mono (m_Lst m_Nat) (Del.same H6 fl) hz⟩ ?_⟩
        refine ⟨ns.map Int.toNat, ?_, fun v => ?_, by rw [List.length_map, List.length_map], fun gg hgg => ?_⟩
        · refine List.Pairwise.map _ (fun x y h => ?_) (List.Pairwise.imp_of_mem (S := fun x y => 0 ≤ x ∧ x < y) (fun {x y} hx hy h => ?_) hpw)
          · omega
          · obtain ⟨r, rfl, _⟩ := hroot x hx
            exact ⟨by omega, h⟩
        · constructor
          · intro hv
            obtain ⟨k, hk, rfl⟩ := List.mem_map.mp hv
            obtain ⟨r, rfl, hr⟩ := hroot k hk
            rw [Int.toNat_natCast]
            exact hr
          · intro hv
            obtain ⟨u, hu, hgu⟩ := I.mark.mpr hv
            refine List.mem_map.mpr ⟨(v : Int), (hmem _).mpr (decide_eq_true (List.mem_map.mpr ⟨v, ?_, rfl⟩)), Int.toNat_natCast v⟩
            rw [← hgu]
            exact List.mem_of_getElem? (gn_at (by rw [I.len]; exact hu))
        · obtain ⟨k, hk, rfl⟩ := List.mem_map.mp hgg
          obtain ⟨r, rfl, hr⟩ := hroot k hk
          refine ⟨fun z => ?_, ?_, fun u hu v hv => ?_⟩
          · obtain ⟨u, hu, hgu⟩ := I.mark.mpr hr
            have : u ∈ (List.range n).filter fun v => decide ((gn g v : Int) = (r : Int)) := List.mem_filter.mpr ⟨List.mem_range.mpr hu, decide_eq_true (by rw [hgu])⟩
            rw [z] at this
            cases this
          · have := List.length_filter_le (fun v => decide ((gn g v : Int) = (r : Int))) (List.range n)
            rw [List.length_range] at this
            exact this
          · obtain ⟨a1, a2⟩ := List.mem_filter.mp hu
            obtain ⟨b1, b2⟩ := List.mem_filter.mp hv
            have a1 := List.mem_range.mp a1
            have b1 := List.mem_range.mp b1
            have a2 := of_decide_eq_true a2
            have b2 := of_decide_eq_true b2
            exact ⟨a1, b1, (I.iff u v a1 b1).mp (by omega)⟩
end
end Tt
end
section
set_option maxHeartbeats 4000000
namespace Tt
open PySem PySem.Spec PyProof.Rows L2
section
variable {K : PySem.W.Frag} {mg : Str → Option Value}
theorem hu65 {A : Around} {k : Nat} (hr : Room k A) : A.units + 65 < cLine := by have := hr.un; omega
theorem b_transform (T : Tx K mg) : ∃ ds, Vals [V.ref T.eT] ds ∧ Binds K T.transform_all_fd N_transform_all_ps ds := by
  refine T.transform_all_F.binds0 3 (fun z => nomatch z) rfl fun D doc pm an cdv ct us ks h1 h2 => ?_
  match us, h1 with
  | [a, b, c], _ =>
    match ks, h2 with
    | [d], _ =>
      exact ⟨_, _, _, _, _, _, rfl, rfl, rfl⟩
theorem b_Web (T : Tx K mg) : ∃ its : List Value, KBn K T.Web_init_fd N_Web_init_ps 3 ["modulus"] (fun us ws => us ++ ws) (fun vs zs => vs ++ zs) := by
  refine T.Web_init_F.kbindsD (ps := N_Web_init_ps) 3 ["modulus"] (fun us _ ws => us ++ ws) (fun z => nomatch z) (fun a _ c => L2.Vals.append a c) fun Tt kV doc pm an cdv ct us its ws h1 h2 h3 => ?_
  match us, h1 with
  | [a, b, c], _ =>
    match ws, h3 with
    | [d], _ =>
      match its, h2 with
      | [e], _ => exact ⟨_, rfl, rfl⟩
end
end Tt
end
section
set_option maxHeartbeats 4000000
namespace Tt
open PySem PySem.Spec PyProof.Rows L2
theorem ints_in {p a : Addr} {H : Hp} {xs : List Int} (h : H a = some (.lst (xs.map V.int))) (ha : a ≠ p) : ListAt IntR (Del H p) a xs := ListAt.of_ints (by rw [Del.at_ ha]; exact h)
theorem Del.in_ {H : Hp} {p b : Addr} {o : HO} (h : Del H p b = some o) : b ≠ p ∧ H b = some o := by
  have hb : b ≠ p := by rintro rfl; rw [Del.none] at h; cases h
  rw [Del.at_ hb] at h
  exact ⟨hb, h⟩
section
variable {P : Program} {w : World} {K : PySem.W.Frag} {mg : Str → Option Value} {base : Heap}
def sp_law_joint : Sp := fun vs H Q _ => ∃ (p : Addr), vs = [.ref p] ∧ PoolAt H p ∧ ∀ H' t (n : Nat) m la oa L gss (v v' : V), Pl p H H' → H' t = some (.tup [.int n, .int m, .ref la, .ref oa, v, v']) → 1 ≤ n → n ≤ 7 → ModOk m → ListAt (LstR PairR) (Del H' p) la L → ListAt (LstR IntR) (Del H' p) oa gss → GainsOk m L gss →
  (∀ es ∈ L, EdOk n es ∧ es.length ≤ 6) → 1 ≤ L.length → L.length ≤ 6 → Q (.ref t) H'
theorem ok_law_joint (T : Tx K mg) : FnOk P w K mg base CX0 4 T.law_joint.f T.law_joint.fd N_law_joint_ps sp_law_joint := by
  have G_law_base := ok_law_base (P := P) (w := w) (base := base) T
  have G_law_goal := ok_law_goal (P := P) (w := w) (base := base) T
  have G_law_led := ok_law_led (P := P) (w := w) (base := base) T
  have G_law_many_webs := ok_law_many_webs (P := P) (w := w) (base := base) T
  have G_law_residue := ok_law_residue (P := P) (w := w) (base := base) T
  have G_law_take := ok_law_take (P := P) (w := w) (base := base) T
  refine T.law_joint.F.ok sc_law_joint (fun vs H Q E h => ?_) (fun cdv A outer s H vs Q E hr h => ?_)
  · obtain ⟨p, rfl, hp, k⟩ := h
    rfl
  · obtain ⟨p, rfl, hp, k⟩ := h
    have hu := hu_of hr
    refine ⟨_, PSs.nox (pss_cons (ps_set (i := 1) sc_law_joint.nd rfl (by first | exact Or.inl rfl | exact Or.inr rfl) (pe_op op_add pe_int (pe_call G_law_take (hr.mono (by decide)) rfl T.law_take.m T.law_take.F.kp T.law_take.b .nil pass0 (pa_cons (pv 0) (pa_cons pe_int pa_nil)))))
      (pss_cons (ps_set (i := 2) sc_law_joint.nd rfl (by first | exact Or.inl rfl | exact Or.inr rfl) (pe_call G_law_base (hr.mono (by decide)) rfl T.law_base.m T.law_base.F.kp T.law_base.b .nil pass0 (pa_cons (pv 0) pa_nil)))
      (pss_cons (ps_set (i := 3) sc_law_joint.nd rfl (by first | exact Or.inl rfl | exact Or.inr rfl) (pe_call G_law_many_webs (hr.mono (by decide)) rfl T.law_many_webs.m T.law_many_webs.F.kp T.law_many_webs.b .nil pass0 (pa_cons (pv 0) (pa_cons (pv 1) (pa_cons pe_int pa_nil)))))
      (pss_cons (ps_set (i := 4) sc_law_joint.nd rfl (by first | exact Or.inl rfl | exact Or.inr rfl) (pe_lc (own := [("_law_spot", 5)]) (g := gName 5) (tt := tYes) rfl sc_law_joint.nd (pi_range1 rfl T.n_range (pa_cons (pv 1) pa_nil)) (blkOk_by (N := N_law_joint) (sc := defScope (top 65)) (by decide +kernel)) (fun _ _ _ _ _ => (pg_name (i := 5) sc_law_joint.nd rfl (by first | exact Or.inl rfl | exact Or.inr rfl))) (fun _ _ _ _ _ => pts_nil) (fun _ _ _ _ _ => (pe_op op_mul (pe_call G_law_residue (hr.mono (by decide)) rfl T.law_residue.m T.law_residue.F.kp T.law_residue.b .nil pass0 (pa_cons (pv 0) (pa_cons (pv 2) pa_nil))) (pe_call G_law_take (hr.mono (by decide)) rfl T.law_take.m T.law_take.F.kp T.law_take.b .nil pass0 (pa_cons (pv 0) (pa_cons pe_int pa_nil)))))))
      (pss_cons (ps_setLc (i := 6) (own := [("_law_pairs_here", 8)]) (g := gName 8) (tt := tYes) rfl sc_law_joint.nd rfl rfl (sw_true rfl rfl rfl (by decide +kernel)) (pi_list (pv 3)) (blkOk_by (N := N_law_joint) (sc := defScope (top 65)) (by decide +kernel)) (fun _ _ _ _ _ => (pg_name (i := 8) sc_law_joint.nd rfl (by first | exact Or.inl rfl | exact Or.inr rfl))) (fun _ _ _ _ _ => pts_nil) (fun _ _ _ _ _ => (pe_lc (own := [("_law_pair", 7)]) (g := gName 7) (tt := tYes) rfl sc_law_joint.nd (pi_listB (K := K) rfl (pv 8)) (blkOk_by (N := N_law_joint) (by kernel_rfl)) (fun _ _ _ _ _ => (pg_name (i := 7) sc_law_joint.nd rfl (by first | exact Or.inl rfl | exact Or.inr rfl))) (fun _ _ _ _ _ => pts_nil) (fun _ _ _ _ _ => (pe_call G_law_residue (hr.mono (by decide)) rfl T.law_residue.m T.law_residue.F.kp T.law_residue.b .nil pass0 (pa_cons (pv 0) (pa_cons (pv 2) pa_nil)))))))
      (pss_cons (ps_setLc (i := 9) (own := [("_law_pairs_here", 8), ("_law_old", 10)]) (tt := tYes) rfl sc_law_joint.nd rfl rfl (sw_true rfl rfl rfl (by decide +kernel)) (pi_zip (by rfl) T.n_zip (pa_cons (pv 3) (pa_cons (pv 6) pa_nil))) (blkOk_by (N := N_law_joint) (sc := defScope (top 65)) (by decide +kernel)) (fun _ _ _ _ _ => (pg_tupB (K := K) (n := 2) rfl rfl (pgs_cons (pg_name (i := 8) sc_law_joint.nd rfl (by first | exact Or.inl rfl | exact Or.inr rfl)) (pgs_cons (pg_name (i := 10) sc_law_joint.nd rfl (by first | exact Or.inl rfl | exact Or.inr rfl)) pgs_nil)))) (fun _ _ _ _ _ => pts_nil) (fun _ _ _ _ _ => (pe_call G_law_led (hr.mono (by decide)) rfl T.law_led.m T.law_led.F.kp T.law_led.b .nil pass0 (pa_cons (pv 8) (pa_cons (pv 2) (pa_cons (pv 10) (pa_cons (pv 4) pa_nil)))))))
      (pss_cons (ps_set (i := 11) sc_law_joint.nd rfl (by first | exact Or.inl rfl | exact Or.inr rfl) (pe_call G_law_take (hr.mono (by decide)) rfl T.law_take.m T.law_take.F.kp T.law_take.b .nil pass0 (pa_cons (pv 0) (pa_cons (pe_callB call_len_seq (by rfl) T.n_len (by decide +kernel) (pa_cons (pv 3) pa_nil)) pa_nil))))
      (pss_cons (ps_if (pt_cmpR op_eq (pe_call G_law_take (hr.mono (by decide)) rfl T.law_take.m T.law_take.F.kp T.law_take.b .nil pass0 (pa_cons (pv 0) (pa_cons pe_int pa_nil))) pe_int (nomark _)) (pss_one (ps_asg (pe_call G_law_goal (hr.mono (by decide)) rfl T.law_goal.m T.law_goal.F.kp T.law_goal.b .nil pass0 (pa_cons (pv 0) (pa_cons (pe_ix ix_list (pv 3) (pv 11) (fun _ _ => rfl)) (pa_cons (pv 2) (pa_cons (pe_ix ix_list (pv 6) (pv 11) (fun _ _ => rfl)) (pa_cons (pv 4) pa_nil)))))) (pg_sub (pv 9) (pv 11) set_list))) pss_nil)
      (pss_one (ps_ret (pe_tup (pa_cons (pv 1) (pa_cons (pv 2) (pa_cons (pv 3) (pa_cons (pv 6) (pa_cons (pv 9) (pa_cons (pv 4) pa_nil))))))))))))))))), ?_⟩
    refine ⟨_, rfl, p, 7, rfl, hp, by decide, by decide, fun H1 r e1 r0 r1 => ?_⟩
    obtain ⟨r, rfl⟩ := Int.eq_ofNat_of_zero_le r0
    refine ⟨_, _, rfl, rfl, ?_⟩
    show gName 1 (V.int (1 + (r : Int))) _ _ _
    rw [show (1 : Int) + (r : Int) = ((1 + r : Nat) : Int) from by omega]
    have hn1 : 1 ≤ 1 + r := by omega
    have hn7 : 1 + r ≤ 7 := by omega
    generalize 1 + r = n at hn1 hn7
    refine ⟨_, rfl, p, rfl, e1.pool, fun H2 m e2 hm => ?_⟩
    refine ⟨_, rfl, _, rfl, p, n, 6, rfl, e2.pool, hn1, by omega, by decide, by decide, fun H3 la L e3 _ hL hes l1 l6 => ?_⟩
    have e03 := e1.trans (e2.trans e3)
    refine ⟨_, rfl, n, rfl, by omega, by omega, fun D hD => ?_⟩
    have hDp := e3.pool.ne hD
    refine lc_it (walk_range (lo := 0) (n := (n : Int).toNat)) (fun j H4 => Pl p H3 H4 ∧ ∃ xs : List Int, H4 D = some (.lst (xs.map V.int)) ∧ xs.length = j) ⟨Pl.new e3.pool hD, [], upd_same, rfl⟩ (fun _ _ _ _ => trivial) ?_ ?_
    · rintro j x Hx H4 hj ⟨e4, xs, h4, hl⟩ ⟨rfl, rfl⟩
      refine ⟨rfl, _, rfl, _, rfl, p, m, rfl, e4.pool, hm, fun H5 v e5 _ => ?_⟩
      refine ⟨_, rfl, p, 2, rfl, e5.pool, by decide, by decide, fun H6 c e6 c0 c1 => ?_⟩
      refine ⟨_, _, rfl, rfl, .inr ⟨by omega, by omega⟩, ?_⟩
      have h6 := e6.at_ (e5.at_ h4 hDp) hDp
      refine ⟨_, h6, by rw [List.length_map]; exact szl _ (by omega), Pl.mut (e4.trans (e5.trans e6)) hD hDp, xs ++ [v * c], ?_, by rw [List.length_append, hl]; rfl⟩
      rw [upd_same, List.map_append]
      rfl
    rintro H4 ⟨e4, lv, h4, hlv⟩
    rw [Int.toNat_natCast] at hlv
    have hLv : ListAt IntR (Del H4 p) D lv := ints_in h4 hDp
    have hL4 := e4.list (m_Lst m_Pair) hL
    obtain ⟨ls, q1', q2⟩ := id hL4
    obtain ⟨hlap, q1⟩ := Del.in_ q1'
    have hlsl := Paired.length q2
    refine ⟨_, rfl, la, rfl, ⟨_, SqL.of q1⟩, fun D2 hD2 => ?_⟩
    have hD2p := e4.pool.ne hD2
    refine lc_list (K := K) (a := la) (xs := ls) (fun j H5 => Pl p H4 H5 ∧ ∃ (zs : List V) (gss : List (List Int)), H5 D2 = some (.lst zs) ∧ Paired (LstR IntR (Del (Del H5 p) D2)) zs gss ∧ GainsOk m (L.take j) gss) ⟨Pl.new e4.pool hD2, [], [], upd_same, .nil, .nil⟩ (fun j H5 _ ⟨e, _⟩ => SqL.of (e.at_ q1 hlap)) ?_ ?_
    · rintro j y H5 hj ⟨e5, zs, gss, h5, hz, hg⟩
      obtain ⟨es, he, a2, rfl, ha2⟩ := Paired.at2 q2 hj
      obtain ⟨ys, y1', y2⟩ := ha2
      obtain ⟨ha2p, y1⟩ := Del.in_ y1'
      have hyl := Paired.length y2
      have he6 := (hes es (List.mem_of_getElem? he)).2
      have hjl := (List.getElem?_eq_some_iff.mp he).1
      refine ⟨rfl, ?_⟩
      refine ⟨_, rfl, a2, rfl, ⟨_, SqL.of (e5.at_ y1 ha2p)⟩, fun D3 hD3 => ?_⟩
      have hD3p := e5.pool.ne hD3
      have hD32 : D3 ≠ D2 := (ne_of_none h5 hD3).symm
      refine lc_list (K := K) (a := a2) (xs := ys) (fun i H6 => Pl p H5 H6 ∧ ∃ xs : List Int, H6 D3 = some (.lst (xs.map V.int)) ∧ xs.length = i ∧ ∀ x ∈ xs, Res m x) ⟨Pl.new e5.pool hD3, [], upd_same, rfl, fun _ h => nomatch h⟩ (fun i H6 _ ⟨e, _⟩ => SqL.of (e.at_ (e5.at_ y1 ha2p) ha2p)) ?_ ?_
      · rintro i y1 H6 hi ⟨e6, xs, h6, hl, hr'⟩
        have hil := (List.getElem?_eq_some_iff.mp hi).1
        refine ⟨rfl, _, rfl, _, rfl, p, m, rfl, e6.pool, hm, fun H7 v e7 hv => ?_⟩
        refine ⟨_, e7.at_ h6 hD3p, by rw [List.length_map]; exact szl _ (by omega), Pl.mut (e6.trans e7) hD3 hD3p, xs ++ [v], ?_, by rw [List.length_append, hl]; rfl, fun x hx => ?_⟩
        · rw [upd_same, List.map_append]; rfl
        · rcases List.mem_append.mp hx with h | h
          · exact hr' x h
          · rw [List.mem_singleton.mp h]; exact hv
      rintro H6 ⟨e6, xs, h6, hl, hr'⟩
      have f5 := e6.at_ h5 hD2p
      refine ⟨_, f5, ?_, Pl.mut (e5.trans e6) hD2 hD2p, zs ++ [.ref D3], gss ++ [xs], upd_same, ?_, ?_⟩
      · have := Paired.length hz
        have := Paired.length hg
        rw [List.length_take] at this
        exact szl _ (by omega)
      · have st : Same (Del (Del H6 p) D2) (Del (Del (upd H6 D2 (.lst (zs ++ [.ref D3]))) p) D2) := fun c o hc => by
          obtain ⟨c1, hc⟩ := Del.in_ hc
          obtain ⟨c2, hc⟩ := Del.in_ hc
          rw [Del.at_ c1, Del.at_ c2, upd_ne c1]
          exact hc
        exact Paired.mono (m_Lst m_Int) st (Paired.snoc (Paired.mono (m_Lst m_Int) (Del.mono D2 e6.same) hz) ⟨D3, rfl, ListAt.of_ints (by rw [Del.at_ hD32, Del.at_ hD3p]; exact h6)⟩)
      · rw [take1 he]
        exact Paired.snoc hg ⟨by rw [hl, hyl], hr'⟩
    · rintro H5 ⟨e5, zs, gss, h5, hz, hg⟩
      rw [hlsl, List.take_length] at hg
      have hO : ListAt (LstR IntR) (Del H5 p) D2 gss := ⟨zs, by rw [Del.at_ hD2p]; exact h5, Paired.mono (m_Lst m_Int) (Del.same _ D2) hz⟩
      have hL5 := e5.list (m_Lst m_Pair) hL4
      have hLv5 := e5.list m_Int hLv
      have hgl := Paired.length hg
      have hzl := Paired.length hz
      obtain ⟨ls5, r1, r2⟩ := out_list (m_Lst m_Pair) hL5
      obtain ⟨os5, s1, s2⟩ := out_list (m_Lst m_Int) hO
      have hls5 := Paired.length r2
      have hos5 := Paired.length s2
      have hlv5 := (out_list m_Int hLv5).ints
      refine ⟨_, rfl, _, rfl, la, D2, _, _, rfl, SqL.of r1, SqL.of s1, fun D9 hD9 => ?_⟩
      have hD9p := e5.pool.ne hD9
      refine lc_it (walk_zip (K := K) (a := la) (b := D2) (xs := ls5) (ys := os5) (n := L.length) (by omega)) (fun j H6 => Same H5 H6 ∧ ∃ ws, H6 D9 = some (.lst ws) ∧ ws.length = j) ⟨Same.new hD9, [], upd_same, rfl⟩ (fun j H6 _ ⟨e, _⟩ => ⟨SqL.of (e _ _ r1), SqL.of (e _ _ s1)⟩) ?_ ?_
      · rintro j x H6 H7 hj ⟨e6, ws, h6, hw⟩ ⟨T0, p1, p2, rfl, hT0, rfl, hp1, hp2⟩
        obtain ⟨es, he, a2, rfl, ha2⟩ := Paired.at2 r2 hp1
        obtain ⟨gs, hgs, o2, rfl, ho2⟩ := Paired.at2 s2 hp2
        obtain ⟨es', he', g1, g2⟩ := Paired.at_ hg hgs
        rw [he] at he'
        cases he'
        obtain ⟨ed, el⟩ := hes es (List.mem_of_getElem? he)
        have n1 : Same H6 (upd H6 T0 (.tup [.ref a2, .ref o2])) := Same.new hT0
        have e7 := e6.trans n1
        refine ⟨T0, _, rfl, SqT.of upd_same, rfl, _, _, rfl, _, _, rfl, rfl, rfl, ?_⟩
        refine ⟨_, rfl, _, rfl, _, rfl, _, rfl, a2, o2, D, m, es, gs, lv, rfl, ha2.same m_Pair e7, e7 _ _ ho2.ints, e7 _ _ hlv5, g1, by rw [hlv]; exact ed, by omega, fun H8 nw e8 _ _ => ?_⟩
        exact ⟨_, e8 _ _ (n1 _ _ h6), szl _ (by omega), Same.mut (e7.trans e8) hD9, _, upd_same, by rw [List.length_append, hw]; rfl⟩
      rintro H6 ⟨e6, ws, h6, hw⟩
      have E6 := Pl.of e6 e5.pool
      have fin : ∀ H', Pl p H5 H' → ∀ t, H' t = none → Q (.ref t) (upd H' t (.tup [.int n, .int m, .ref la, .ref D2, .ref D9, .ref D])) := fun H' e' t ht => by
        have e7 := e'.trans (Pl.new (o := .tup [.int n, .int m, .ref la, .ref D2, .ref D9, .ref D]) e'.pool ht)
        exact k _ t n m la D2 L gss _ _ (e03.trans (e4.trans (e5.trans e7))) upd_same hn1 hn7 hm (e7.list (m_Lst m_Pair) hL5) (e7.list (m_Lst m_Int) hO) hg (fun es h => ⟨(hes es h).1, (hes es h).2⟩) l1 l6
      refine ⟨_, rfl, _, rfl, _, _, rfl, .inl (SqL.of (e6 _ _ r1)), p, _, rfl, E6.pool, by omega, by omega, fun H7 one e7 o0 o1 => ?_⟩
      obtain ⟨one, rfl⟩ := Int.eq_ofNat_of_zero_le o0
      refine ⟨_, rfl, p, 2, rfl, e7.pool, by decide, by decide, fun H8 c e8 c0 c1 => ?_⟩
      have e58 := E6.trans (e7.trans e8)
      have e68 := e7.trans e8
      refine ⟨rfl, _, rfl, ?_⟩
      refine ite2 (fun _ => ?_) (fun _ => ?_)
      · have hol : one < L.length := by omega
        have hL8 := e58.list (m_Lst m_Pair) hL5
        have hO8 := e58.list (m_Lst m_Int) hO
        have hLv8 := e58.list m_Int hLv5
        obtain ⟨es, he⟩ : ∃ es, L[one]? = some es := ⟨_, List.getElem?_eq_getElem hol⟩
        obtain ⟨gs, hgs⟩ : ∃ gs, gss[one]? = some gs := ⟨_, List.getElem?_eq_getElem (by omega)⟩
        obtain ⟨xs8, x1, x2⟩ := id hL8
        obtain ⟨ys8, y1, y2⟩ := id hO8
        obtain ⟨v1, hv1, a2, rfl, ha2⟩ := Paired.at_ x2 he
        obtain ⟨v2, hv2, o2, rfl, ho2⟩ := Paired.at_ y2 hgs
        obtain ⟨es', he', g1, g2⟩ := Paired.at_ hg hgs
        rw [he] at he'
        cases he'
        obtain ⟨ed, el⟩ := hes es (List.mem_of_getElem? he)
        refine ⟨_, rfl, _, rfl, _, rfl, la, _, _, _, rfl, rfl, SqL.of (Del.in_ x1).2, atI_nat hv1, _, rfl, _, rfl, _, rfl, D2, _, _, _, rfl, rfl, SqL.of (Del.in_ y1).2, atI_nat hv2, _, rfl, p, a2, o2, D, m, es, gs, lv, rfl, e8.pool, ha2, ho2, hLv8, g1, by rw [hlv]; exact ed, by omega, hm, fun H9 nw e9 => ?_⟩
        have h9 := e9.at_ (e68.at_ h6 hD9p) hD9p
        refine ⟨_, rfl, _, rfl, D9, _, _, one, rfl, rfl, h9, ixN_nat (by omega) (by omega), ?_⟩
        refine ⟨_, rfl, _, rfl, _, rfl, _, rfl, _, rfl, _, rfl, (by show 6 ≤ sizeLine; decide), fun t ht => ?_⟩
        exact fin _ (Pl.mut (e58.trans e9) hD9 hD9p) t ht
      · refine ⟨_, rfl, _, rfl, _, rfl, _, rfl, _, rfl, _, rfl, (by show 6 ≤ sizeLine; decide), fun t ht => ?_⟩
        exact fin _ e58 t ht
theorem cut_to {xs : List V} {k : Nat} (h : k ≤ xs.length) : cutV xs none (some (k : Int)) = xs.take k := by
  unfold cutV
  rw [HT.sIx_none, HT.sIx_nat, Nat.min_eq_left h]
  simp
theorem cut_from {xs : List V} {k : Nat} (h : k ≤ xs.length) : cutV xs (some (k : Int)) none = xs.drop k := by
  unfold cutV
  rw [HT.sIx_none, HT.sIx_nat, Nat.min_eq_left h]
  rw [List.take_of_length_le (by rw [List.length_drop]; exact Nat.le_refl _)]
theorem sum_len (L : List Es) : (L.map fun es => (es.length : Int)).sum = (L.flatten.length : Int) := by
  induction L with
  | nil => rfl
  | cons es L ih => rw [List.map_cons, List.sum_cons, ih, List.flatten_cons, List.length_append]; omega
def sp_law_is_bridge : Sp := fun vs H Q _ => ∃ (n : Nat) (la : Addr) (one sp : Nat) (L : List Es) (es : Es), vs = [.int n, .ref la, .int one, .int sp] ∧ ListAt (LstR PairR) H la L ∧ (∀ es ∈ L, EdOk n es ∧ es.length ≤ 60) ∧ L.length ≤ 6 ∧ 1 ≤ n ∧ n ≤ 30 ∧ L[one]? = some es ∧ sp < es.length ∧
  ∀ H' G G', Same H H' → GOk n L.flatten G → GOk n (L.flatten.take (place L one sp) ++ L.flatten.drop (place L one sp + 1)) G' → Q (.bl (decide ((G'.length : Int) > (G.length : Int)))) H'
theorem ok_law_is_bridge (T : Tx K mg) : FnOk P w K mg base CX0 2 T.law_is_bridge.f T.law_is_bridge.fd N_law_is_bridge_ps sp_law_is_bridge := by
  have G_law_flat := ok_law_flat (P := P) (w := w) (base := base) T
  have G_law_groups := ok_law_groups (P := P) (w := w) (base := base) T
  refine T.law_is_bridge.F.ok sc_law_is_bridge (fun vs H Q E h => ?_) (fun cdv A outer s H vs Q E hr h => ?_)
  · obtain ⟨n, la, one, sp, L, es, rfl, hL, hes, l6, hn1, hn, he, hsp, k⟩ := h
    rfl
  · obtain ⟨n, la, one, sp, L, es, rfl, hL, hes, l6, hn1, hn, he, hsp, k⟩ := h
    have hu := hu_of hr
    refine ⟨_, PSs.nox (pss_cons (ps_set (i := 4) sc_law_is_bridge.nd rfl (by first | exact Or.inl rfl | exact Or.inr rfl) (pe_call G_law_flat (hr.mono (by decide)) rfl T.law_flat.m T.law_flat.F.kp T.law_flat.b .nil pass0 (pa_cons (pv 1) pa_nil)))
      (pss_cons (ps_set (i := 5) sc_law_is_bridge.nd rfl (by first | exact Or.inl rfl | exact Or.inr rfl) (pe_op op_add (pe_callB (cr_sum rfl) (by rfl) T.n_sum (by decide +kernel) (pa_cons (pe_lc (own := [("_law_some", 6)]) (g := gName 6) (tt := tYes) rfl sc_law_is_bridge.nd (pi_list (pe_slice sl_list (pv 1) po_none (po_some (pv 2)))) (blkOk_by (N := N_law_is_bridge) (sc := defScope (top 66)) (by decide +kernel)) (fun _ _ _ _ _ => (pg_name (i := 6) sc_law_is_bridge.nd rfl (by first | exact Or.inl rfl | exact Or.inr rfl))) (fun _ _ _ _ _ => pts_nil) (fun _ _ _ _ _ => (pe_callB (call_len_seqB (K := K) rfl) (by rfl) T.n_len (by decide +kernel) (pa_cons (pv 6) pa_nil)))) pa_nil)) (pv 3)))
      (pss_one (ps_ret (pe_cmpR op_gt (pe_callB call_len_seq (by rfl) T.n_len (by decide +kernel) (pa_cons (pe_call G_law_groups (hr.mono (by decide)) rfl T.law_groups.m T.law_groups.F.kp T.law_groups.b .nil pass0 (pa_cons (pv 0) (pa_cons (pe_op op_cat (pe_slice sl_list (pv 4) po_none (po_some (pv 5))) (pe_slice sl_list (pv 4) (po_some (pe_op op_add (pv 5) pe_int)) po_none)) pa_nil))) pa_nil)) (pe_callB call_len_seq (by rfl) T.n_len (by decide +kernel) (pa_cons (pe_call G_law_groups (hr.mono (by decide)) rfl T.law_groups.m T.law_groups.F.kp T.law_groups.b .nil pass0 (pa_cons (pv 0) (pa_cons (pv 4) pa_nil))) pa_nil)) (nomark _)))))), ?_⟩
    have h60 : ∀ es ∈ L, es.length ≤ 60 := fun es h => (hes es h).2
    have hed : EdOk n L.flatten := fun e he => by
      obtain ⟨es, h1, h2⟩ := List.mem_flatten.mp he
      exact (hes es h1).1 e h2
    refine ⟨_, rfl, la, L, rfl, hL, h60, l6, fun H1 fa e1 _ hfa => ?_⟩
    obtain ⟨xs, h1, h2⟩ := hL.same (m_Lst m_Pair) e1
    have hxl := Paired.length h2
    have hone := (List.getElem?_eq_some_iff.mp he).1
    refine ⟨_, rfl, _, rfl, _, rfl, la, xs, rfl, SqL.of h1, fun q hq => ?_⟩
    rw [cut_to (by omega)]
    have n1 : Same H1 (upd H1 q (.lst (xs.take one))) := Same.new hq
    refine ⟨q, rfl, ⟨_, SqL.of upd_same⟩, fun D hD => ?_⟩
    refine lc_list (K := K) (a := q) (xs := xs.take one) (fun j H2 => Same (upd H1 q (.lst (xs.take one))) H2 ∧ H2 D = some (.lst ((((L.take one).take j).map fun es => (es.length : Int)).map V.int))) ⟨Same.new hD, upd_same⟩ (fun j H2 _ ⟨e, _⟩ => SqL.of (e _ _ upd_same)) ?_ ?_
    · rintro j y H2 hj ⟨e2, f2⟩
      obtain ⟨es2, he2, a2, rfl, ha2⟩ := Paired.at2 (Paired.take_ one h2) hj
      obtain ⟨ys, y1, y2⟩ := ha2
      have hjl := (List.getElem?_eq_some_iff.mp hj).1
      rw [List.length_take] at hjl
      refine ⟨rfl, ?_⟩
      refine ⟨_, rfl, a2, ys, rfl, .inl (SqL.of (e2 _ _ (n1 _ _ y1))), ?_⟩
      refine ⟨_, f2, ?_, Same.mut e2 hD, ?_⟩
      · rw [List.length_map, List.length_map, List.length_take, List.length_take]; exact szl _ (by omega)
      · rw [upd_same, take1 he2, List.map_append, List.map_append, Paired.length y2]
        rfl
    rintro H2 ⟨e2, f2⟩
    have tt : (L.take one).take (xs.take one).length = L.take one := List.take_of_length_le (by rw [List.length_take, List.length_take]; omega)
    rw [tt] at f2
    refine ⟨D, _, rfl, SqL.of f2, _, rfl, _, _, rfl, rfl, ?_⟩
    show gName 5 (V.int (((L.take one).map fun es => (es.length : Int)).sum + (sp : Int))) _ _ _
    rw [sum_len, show (((L.take one).flatten.length : Nat) : Int) + (sp : Int) = ((place L one sp : Nat) : Int) from by unfold place; omega]
    have hpl : place L one sp < L.flatten.length := by
      have := flat_place he (d := es[sp]'hsp) (List.getElem?_eq_getElem hsp)
      exact (List.getElem?_eq_some_iff.mp this).1
    generalize hat : place L one sp = at' at hpl
    rw [hat] at k
    have e3 := n1.trans e2
    obtain ⟨zs, z1, z2⟩ := hfa.same m_Pair e3
    have hzl := Paired.length z2
    refine ⟨_, rfl, _, rfl, _, rfl, _, rfl, fa, zs, rfl, SqL.of z1, fun q1 hq1 => ?_⟩
    rw [cut_to (by omega)]
    have n4 : Same H2 (upd H2 q1 (.lst (zs.take at'))) := Same.new hq1
    refine ⟨_, rfl, _, rfl, _, _, rfl, rfl, _, rfl, fa, zs, rfl, SqL.of (n4 _ _ z1), ?_⟩
    show ∀ p, _ = none → _
    intro q2 hq2
    have hc : cutV zs (some (((at' : Nat) : Int) + 1)) none = zs.drop (at' + 1) := by
      rw [show ((at' : Nat) : Int) + 1 = ((at' + 1 : Nat) : Int) from by omega]
      exact cut_from (by omega)
    rw [hc]
    have n5 : Same (upd H2 q1 (.lst (zs.take at'))) (upd (upd H2 q1 (.lst (zs.take at'))) q2 (.lst (zs.drop (at' + 1)))) := Same.new hq2
    refine ⟨q1, q2, _, _, rfl, rfl, n5 _ _ upd_same, upd_same, ?_, fun q3 hq3 => ?_⟩
    · rw [List.length_take, List.length_drop]
      have := flat_le h60 L.length
      rw [List.take_length] at this
      exact sz _ (by omega)
    have n6 : Same (upd (upd H2 q1 (.lst (zs.take at'))) q2 (.lst (zs.drop (at' + 1)))) (upd (upd (upd H2 q1 (.lst (zs.take at'))) q2 (.lst (zs.drop (at' + 1)))) q3 (.lst (zs.take at' ++ zs.drop (at' + 1)))) := Same.new hq3
    have e6 := n4.trans (n5.trans n6)
    have z2' := Paired.mono m_Pair e6 z2
    have hcut : ListAt PairR (upd (upd (upd H2 q1 (.lst (zs.take at'))) q2 (.lst (zs.drop (at' + 1)))) q3 (.lst (zs.take at' ++ zs.drop (at' + 1)))) q3 (L.flatten.take at' ++ L.flatten.drop (at' + 1)) := ⟨_, upd_same, Paired.app (Paired.take_ at' z2') (Paired.drop_ (at' + 1) z2')⟩
    have hed' : EdOk n (L.flatten.take at' ++ L.flatten.drop (at' + 1)) := fun e h => by
      rcases List.mem_append.mp h with h | h
      · exact hed e (List.mem_of_mem_take h)
      · exact hed e (List.mem_of_mem_drop h)
    refine ⟨n, q3, _, rfl, hcut, hed', hn1, hn, fun H7 g1 G' e7 _ hg1 hG' => ?_⟩
    obtain ⟨gx, x1, x2⟩ := id hg1
    refine ⟨_, _, rfl, .inl (SqL.of x1), ?_⟩
    have hfa7 : ListAt PairR H7 fa L.flatten := ((hfa.same m_Pair e3).same m_Pair e6).same m_Pair e7
    refine ⟨_, rfl, _, rfl, n, fa, _, rfl, hfa7, hed, hn1, hn, fun H8 g2 G e8 _ hg2 hG => ?_⟩
    obtain ⟨gy, y1, y2⟩ := id hg2
    refine ⟨_, _, rfl, .inl (SqL.of y1), _, _, rfl, rfl, ?_⟩
    rw [Paired.length x2, Paired.length y2]
    exact k H8 G G' (e1.trans (e3.trans (e6.trans (e7.trans e8)))) hG hG'
end
end Tt
end
section
set_option maxHeartbeats 4000000
namespace Tt
open PySem PySem.Spec PyProof.Rows L2
/-! ### the law's numbers -/
def newsAt (m : Int) (n : Nat) (L : List Es) (olds : List (List Int)) (ds : List (Nat × Int)) : List (List Int) := List.zipWith (fun es gs => ledOf m es gs (potOf m n ds)) L olds
theorem led_at {m : Int} {es : Es} {gs f : List Int} {j t h : Nat} {g : Int} (h1 : es[j]? = some (t, h)) (h2 : gs[j]? = some g) : (ledOf m es gs f)[j]? = some (red m (g + fn f t - fn f h)) := by
  unfold ledOf
  rw [List.getElem?_zipWith, h2, h1]
theorem led_len {m : Int} {es : Es} {gs f : List Int} (h : gs.length = es.length) : (ledOf m es gs f).length = es.length := by
  unfold ledOf
  rw [List.length_zipWith]
  omega
theorem led_res {m : Int} {es : Es} {gs f : List Int} : ∀ g ∈ ledOf m es gs f, Res m g := fun g hg => by
  obtain ⟨j, hj⟩ := List.getElem?_of_mem hg
  unfold ledOf at hj
  rw [List.getElem?_zipWith] at hj
  cases e1 : gs[j]? with
  | none => rw [e1] at hj; simp at hj
  | some a =>
    cases e2 : es[j]? with
    | none => rw [e1, e2] at hj; simp at hj
    | some b =>
      rw [e1, e2] at hj
      rw [← Option.some.inj hj]
      exact red_res m _
theorem led_congr {m : Int} {es : Es} {gs gs' f f' : List Int} (hl : gs.length = es.length) (hl' : gs'.length = es.length) (h : ∀ (j t hd : Nat) (g g' : Int), es[j]? = some (t, hd) → gs[j]? = some g → gs'[j]? = some g' → red m (g + fn f t - fn f hd) = red m (g' + fn f' t - fn f' hd)) :
    ledOf m es gs f = ledOf m es gs' f' := by
  apply List.ext_getElem?
  intro j
  cases he : es[j]? with
  | none =>
    have := List.getElem?_eq_none_iff.mp he
    rw [List.getElem?_eq_none (by rw [led_len hl]; exact this), List.getElem?_eq_none (by rw [led_len hl']; exact this)]
  | some e =>
    obtain ⟨t, hd⟩ := e
    have hj := (List.getElem?_eq_some_iff.mp he).1
    have h1 : gs[j]? = some (gs[j]'(by omega)) := List.getElem?_eq_getElem _
    have h2 : gs'[j]? = some (gs'[j]'(by omega)) := List.getElem?_eq_getElem _
    rw [led_at he h1, led_at he h2, h j t hd _ _ he h1 h2]
theorem fn_rep {n v : Nat} : fn (List.replicate n (0 : Int)) v = 0 := by
  unfold fn
  rw [List.getD_eq_getElem?_getD, List.getElem?_replicate]
  split <;> rfl
theorem fn_set {l : List Int} {i v : Nat} {x : Int} (h : i < l.length) : fn (l.set i x) v = if i = v then x else fn l v := by
  unfold fn
  rw [List.getD_eq_getElem?_getD, List.getElem?_set, List.getD_eq_getElem?_getD]
  by_cases c : i = v
  · subst c
    rw [if_pos rfl, if_pos h, if_pos rfl]
    rfl
  · rw [if_neg c, if_neg c]
theorem led_zero {m : Int} {n : Nat} {es : Es} {gs : List Int} (hm : ModOk m) (hl : gs.length = es.length) (hr : ∀ g ∈ gs, Res m g) : ledOf m es gs (potOf m n []) = gs := by
  apply List.ext_getElem?
  intro j
  cases he : es[j]? with
  | none =>
    have := List.getElem?_eq_none_iff.mp he
    rw [List.getElem?_eq_none (by rw [led_len hl]; exact this), List.getElem?_eq_none (by omega)]
  | some e =>
    obtain ⟨t, hd⟩ := e
    have hj := (List.getElem?_eq_some_iff.mp he).1
    have h1 : gs[j]? = some (gs[j]'(by omega)) := List.getElem?_eq_getElem _
    rw [led_at he h1, h1, show potOf m n [] = List.replicate n 0 from rfl, fn_rep, fn_rep]
    congr 1
    rw [show gs[j] + 0 - 0 = gs[j] by omega]
    exact red_self hm (hr _ (List.getElem_mem _))
theorem led_step {m : Int} {n i : Nat} {am : Int} {es : Es} {gs : List Int} {ds : List (Nat × Int)} (hm : ModOk m) (hl : gs.length = es.length) (hi : i < n) : ledOf m es (ledOf m es gs (potOf m n ds)) ((List.replicate n 0).set i (red m am)) = ledOf m es gs (potOf m n (ds ++ [(i, am)])) := by
  refine led_congr (led_len hl) hl fun j t hd g g' he h1 h2 => red_congr hm ?_
  rw [led_at he h2] at h1
  have h1 := Option.some.inj h1
  have hpl := potOf_len m n ds
  have key : ∀ v, m ∣ fn ((List.replicate n 0).set i (red m am)) v - (fn (potOf m n (ds ++ [(i, am)])) v - fn (potOf m n ds) v) := fun v => by
    rw [potOf_snoc, fn_set (by rw [List.length_replicate]; exact hi), fn_set (by rw [hpl]; exact hi), fn_rep]
    dsimp only
    by_cases c : i = v
    · subst c
      rw [if_pos rfl, if_pos rfl]
      have a1 := red_dvd m am
      have a2 := red_dvd m (fn (potOf m n ds) i + am)
      exact dvd_lin2' a1 a2 (by omega)
    · rw [if_neg c, if_neg c]
      exact ⟨0, by omega⟩
  have a0 := red_dvd m (g' + fn (potOf m n ds) t - fn (potOf m n ds) hd)
  rw [h1] at a0
  exact dvd_lin2 a0 (dvd_lin2' (key t) (key hd) rfl) (by omega)
section
variable {m : Int} {n : Nat} {L : List Es} {olds : List (List Int)} {ds : List (Nat × Int)}
theorem news_at (h : GainsOk m L olds) {k : Nat} {es : Es} {gs : List Int} (e1 : L[k]? = some es) (e2 : olds[k]? = some gs) : (newsAt m n L olds ds)[k]? = some (ledOf m es gs (potOf m n ds)) := by
  unfold newsAt
  rw [List.getElem?_zipWith, e1, e2]
theorem GainsOk.at2 (h : GainsOk m L olds) {k : Nat} {es : Es} (e1 : L[k]? = some es) : ∃ gs, olds[k]? = some gs ∧ gs.length = es.length ∧ ∀ g ∈ gs, Res m g := by
  obtain ⟨gs, e2, e3, e4⟩ := Paired.at2 (F := fun (es : Es) (gs : List Int) => gs.length = es.length ∧ ∀ g ∈ gs, Res m g) h e1
  exact ⟨gs, e2, e3, e4⟩
theorem gains_of (hl : olds.length = L.length) (h : ∀ (k : Nat) (es : Es) (gs : List Int), L[k]? = some es → olds[k]? = some gs → gs.length = es.length ∧ ∀ g ∈ gs, Res m g) : GainsOk m L olds := by
  unfold GainsOk
  induction L generalizing olds with
  | nil =>
    cases olds with
    | nil => exact .nil
    | cons g o => simp at hl
  | cons es L ih =>
    cases olds with
    | nil => simp at hl
    | cons g o => exact .cons (h 0 es g rfl rfl) (ih (by simpa using hl) fun k es gs e1 e2 => h (k + 1) es gs (by simpa using e1) (by simpa using e2))
theorem news_len (h : GainsOk m L olds) : (newsAt m n L olds ds).length = L.length := by
  unfold newsAt
  rw [List.length_zipWith, ← Paired.length h]
  omega
theorem news_ok (h : GainsOk m L olds) : GainsOk m L (newsAt m n L olds ds) := gains_of (news_len h) fun k es gs e1 e2 => by
  obtain ⟨os, e3, e4, e5⟩ := h.at2 e1
  rw [news_at h e1 e3] at e2
  cases e2
  exact ⟨led_len e4, led_res⟩
theorem news_zero (hm : ModOk m) (h : GainsOk m L olds) : newsAt m n L olds [] = olds := by
  apply List.ext_getElem?
  intro k
  cases e1 : L[k]? with
  | none =>
    have := List.getElem?_eq_none_iff.mp e1
    rw [List.getElem?_eq_none (by rw [news_len h]; exact this), List.getElem?_eq_none (by rw [← Paired.length h]; exact this)]
  | some es =>
    obtain ⟨os, e3, e4, e5⟩ := h.at2 e1
    rw [news_at h e1 e3, e3, led_zero hm e4 e5]
/-- the potential of the switches solves the rows -/
theorem news_sol (h : GainsOk m L olds) : Sol m (rowsL L olds (newsAt m n L olds ds)).flatten (fn (potOf m n ds)) := by
  have LO := GainsOk.lens h (news_ok (n := n) (ds := ds) h)
  intro i r hr
  obtain ⟨k, j, t, hd, es, b, a, x, y, e1, e2, e3, e4, e5, e6, e7, e8⟩ := LO.inv (List.getElem?_eq_some_iff.mp hr).1
  rw [hr] at e8
  cases e8
  rw [news_at h e1 e2] at e3
  cases e3
  rw [led_at e4 e5] at e6
  cases e6
  unfold Meets
  dsimp only
  have := dvd_flip (red_dvd m (x + fn (potOf m n ds) t - fn (potOf m n ds) hd))
  have e : fn (potOf m n ds) t - fn (potOf m n ds) hd - (red m (x + fn (potOf m n ds) t - fn (potOf m n ds) hd) - x) = x + fn (potOf m n ds) t - fn (potOf m n ds) hd - red m (x + fn (potOf m n ds) t - fn (potOf m n ds) hd) := by omega
  rw [e]
  exact this
/-- any solution turns the olds into the same news -/
theorem sol_news {f : List Int} (hm : ModOk m) (h : GainsOk m L olds) (hs : Sol m (rowsL L olds (newsAt m n L olds ds)).flatten (fn f)) {k : Nat} {es : Es} {gs : List Int} (e1 : L[k]? = some es) (e2 : olds[k]? = some gs) :
    ledOf m es gs f = ledOf m es gs (potOf m n ds) := by
  have LO := GainsOk.lens h (news_ok (n := n) (ds := ds) h)
  obtain ⟨gs', e3, e4, _⟩ := h.at2 e1
  rw [e2] at e3
  cases e3
  refine led_congr e4 e4 fun j t hd g g' he h1 h2 => ?_
  rw [h1] at h2
  cases h2
  have row := LO.row e1 e2 (news_at (ds := ds) (n := n) h e1 e2) he h1 (led_at he h1)
  have a := hs _ _ row
  unfold Meets at a
  dsimp only at a
  refine red_congr hm ?_
  have b := red_dvd m (g + fn (potOf m n ds) t - fn (potOf m n ds) hd)
  exact dvd_lin2 a b (by omega)
/-- two solutions differ by a constant on each component -/
theorem sol_const {f : List Int} (hm : ModOk m) (h : GainsOk m L olds) (hs : Sol m (rowsL L olds (newsAt m n L olds ds)).flatten (fn f)) {u v : Nat} (c : Con L.flatten u v) :
    red m (fn f u - fn (potOf m n ds) u) = red m (fn f v - fn (potOf m n ds) v) := by
  have LO := GainsOk.lens h (news_ok (n := n) (ds := ds) h)
  refine red_congr hm ?_
  have key := Con.sol (m := m) (q := fn f) (q' := fn (potOf m n ds)) (fun e he => by
    obtain ⟨i, hi⟩ := List.getElem?_of_mem he
    rw [← LO.psAll] at hi
    obtain ⟨t, hd⟩ := e
    obtain ⟨d, hd'⟩ := psOf_at.mp hi
    have a1 := hs _ _ hd'
    have a2 := news_sol (n := n) (ds := ds) h _ _ hd'
    unfold Meets at a1 a2
    dsimp only at a1 a2 ⊢
    exact dvd_lin2' a1 a2 (by omega)) c
  exact dvd_lin2 key (Int.dvd_zero m) (by omega)
end
end Tt
end
section
set_option maxHeartbeats 4000000
namespace Tt
open PySem PySem.Spec PyProof.Rows L2
theorem mem_cut {α : Type} {l : List α} {k : Nat} {e : α} : e ∈ l.take k ++ l.drop (k + 1) ↔ ∃ i, i ≠ k ∧ l[i]? = some e := by
  rw [List.mem_append]
  constructor
  · rintro (h | h)
    · obtain ⟨i, hi⟩ := List.getElem?_of_mem h
      have hl := (List.getElem?_eq_some_iff.mp hi).1
      rw [List.length_take] at hl
      rw [List.getElem?_take_of_lt (by omega)] at hi
      exact ⟨i, by omega, hi⟩
    · obtain ⟨i, hi⟩ := List.getElem?_of_mem h
      rw [List.getElem?_drop] at hi
      exact ⟨k + 1 + i, by omega, hi⟩
  · rintro ⟨i, hne, hi⟩
    by_cases c : i < k
    · left
      refine List.mem_of_getElem? (i := i) ?_
      rw [List.getElem?_take_of_lt c]
      exact hi
    · right
      refine List.mem_of_getElem? (i := i - (k + 1)) ?_
      rw [List.getElem?_drop, show k + 1 + (i - (k + 1)) = i by omega]
      exact hi
section
variable {m : Int} {n : Nat} {L : List Es} {olds news : List (List Int)} {one sp : Nat} {es : Es} {gs : List Int} {t h : Nat} {y z x : Int}
/-- one gain of the news changed -/
def newsSet (news : List (List Int)) (one sp : Nat) (gs : List Int) (z : Int) : List (List Int) := news.set one (gs.set sp z)
theorem set_ok (hg : GainsOk m L news) (h1 : news[one]? = some gs) (hz : Res m z) : GainsOk m L (newsSet news one sp gs z) := by
  unfold newsSet
  refine gains_of (by rw [List.length_set]; exact (Paired.length hg).symm) fun k es' gs' e1 e2 => ?_
  obtain ⟨o, e3, e4, e5⟩ := hg.at2 e1
  rw [List.getElem?_set] at e2
  by_cases c : one = k
  · subst c
    rw [if_pos rfl, if_pos (List.getElem?_eq_some_iff.mp h1).1] at e2
    cases e2
    rw [h1] at e3
    cases e3
    refine ⟨by rw [List.length_set]; exact e4, fun g hgm => ?_⟩
    rcases List.mem_or_eq_of_mem_set hgm with q | q
    · exact e5 g q
    · rw [q]; exact hz
  · rw [if_neg c, e3] at e2
    cases e2
    exact ⟨e4, e5⟩
theorem set_other (ho : GainsOk m L olds) (hg : GainsOk m L news) (h1 : news[one]? = some gs) (hz : Res m z) {i : Nat} (hi : i ≠ place L one sp) :
    (rowsL L olds (newsSet news one sp gs z)).flatten[i]? = (rowsL L olds news).flatten[i]? := by
  have L1 := GainsOk.lens ho hg
  have L2 := GainsOk.lens ho (set_ok (sp := sp) hg h1 hz)
  by_cases hl : i < (rowsL L olds (newsSet news one sp gs z)).flatten.length
  · obtain ⟨k, j, t, hd, es, b, a, x, y, e1, e2, e3, e4, e5, e6, e7, e8⟩ := L2.inv hl
    rw [e8, e7]
    unfold newsSet at e3
    rw [List.getElem?_set] at e3
    by_cases c : one = k
    · subst c
      rw [if_pos rfl, if_pos (List.getElem?_eq_some_iff.mp h1).1] at e3
      cases e3
      have hj : sp ≠ j := fun q => hi (by rw [e7, q])
      rw [List.getElem?_set, if_neg hj] at e6
      exact (L1.row e1 e2 h1 e4 e5 e6).symm
    · rw [if_neg c] at e3
      exact (L1.row e1 e2 e3 e4 e5 e6).symm
  · rw [List.getElem?_eq_none (by omega), List.getElem?_eq_none (by rw [L1.len, ← L2.len]; omega)]
theorem set_here (ho : GainsOk m L olds) (hg : GainsOk m L news) (h1 : news[one]? = some gs) (hz : Res m z) {os : List Int} (e1 : L[one]? = some es) (e2 : olds[one]? = some os) (e3 : es[sp]? = some (t, h)) (e4 : os[sp]? = some x) (e5 : gs[sp]? = some y) :
    (rowsL L olds news).flatten[place L one sp]? = some (t, h, y - x) ∧ (rowsL L olds (newsSet news one sp gs z)).flatten[place L one sp]? = some (t, h, z - x) := by
  have L1 := GainsOk.lens ho hg
  have L2 := GainsOk.lens ho (set_ok (sp := sp) hg h1 hz)
  refine ⟨L1.row e1 e2 h1 e3 e4 e5, L2.row (a := gs.set sp z) e1 e2 ?_ e3 e4 ?_⟩
  · unfold newsSet
    rw [List.getElem?_set, if_pos rfl, if_pos (List.getElem?_eq_some_iff.mp h1).1]
  · rw [List.getElem?_set, if_pos rfl, if_pos (List.getElem?_eq_some_iff.mp e5).1]
/-- the rows of the others, by their pairs -/
theorem others {q q' : Nat → Int} {rows rows2 : List Rw} {k : Nat} (hr : ∀ i, i ≠ k → rows2[i]? = rows[i]?) (h1 : ∀ (i : Nat) (r : Rw), i ≠ k → rows[i]? = some r → Meets m q r) (h2 : ∀ (i : Nat) (r : Rw), i ≠ k → rows2[i]? = some r → Meets m q' r) :
    ∀ e ∈ (psOf rows).take k ++ (psOf rows).drop (k + 1), m ∣ (q' e.1 - q' e.2) - (q e.1 - q e.2) := by
  intro e he
  obtain ⟨i, hi, hie⟩ := mem_cut.mp he
  obtain ⟨a, b⟩ := e
  obtain ⟨d, hd⟩ := psOf_at.mp hie
  have a1 := h1 i _ hi hd
  have a2 := h2 i _ hi (by rw [hr i hi]; exact hd)
  unfold Meets at a1 a2
  dsimp only at a1 a2 ⊢
  exact dvd_lin2' a2 a1 (by omega)
variable {rows rows2 : List Rw} {k : Nat} {q : Nat → Int} {d d2 : Int}
/-- solvable though one row asks one more: its ends are joined by it alone -/
theorem pot_apart (hm : ModOk m) (hr : ∀ i, i ≠ k → rows2[i]? = rows[i]?) (e1 : rows[k]? = some (t, h, d)) (e2 : rows2[k]? = some (t, h, d2)) (hd : m ∣ d2 - d - 1) (hq : Sol m rows q) {q2 : Nat → Int} (h2 : Sol m rows2 q2) :
    ¬ Con ((psOf rows).take k ++ (psOf rows).drop (k + 1)) t h := fun c => by
  have key := Con.sol (others (q := q) (q' := q2) hr (fun i r _ => hq i r) (fun i r _ => h2 i r)) c
  have a1 := hq _ _ e1
  have a2 := h2 _ _ e2
  unfold Meets at a1 a2
  dsimp only at a1 a2
  refine not_dvd_one hm ?_
  exact dvd_lin2' (dvd_lin2 key (dvd_lin2' a1 a2 rfl) rfl) hd (by omega)
/-- a walk that none meets: it goes by the changed row, and the ends are joined by others -/
theorem cyc_joined (hr : ∀ i, i ≠ k → rows2[i]? = rows[i]?) (e1 : rows[k]? = some (t, h, d)) (e2 : rows2[k]? = some (t, h, d2)) (hd : m ∣ d2 - d - 1) (hq : Sol m rows q) {W : Pt} (hW : Excl m rows2 W) :
    Con ((psOf rows).take k ++ (psOf rows).drop (k + 1)) t h ∧ ∃ s ∈ W, s.1 = k := by
  classical
  constructor
  · by_cases c : Con ((psOf rows).take k ++ (psOf rows).drop (k + 1)) t h
    · exact c
    · exfalso
      refine hW (fun v => q v + if Con ((psOf rows).take k ++ (psOf rows).drop (k + 1)) t v then 1 else 0) fun x hx r hxr => ?_
      by_cases ck : x.1 = k
      · rw [ck, e2] at hxr
        cases hxr
        have a1 := hq _ _ e1
        unfold Meets at a1 ⊢
        dsimp only at a1 ⊢
        rw [if_pos Con.rf, if_neg c]
        exact dvd_lin2' a1 hd (by omega)
      · rw [hr _ ck] at hxr
        have a1 := hq _ _ hxr
        obtain ⟨a, b, dd⟩ := r
        have hmem : (a, b) ∈ (psOf rows).take k ++ (psOf rows).drop (k + 1) := mem_cut.mpr ⟨x.1, ck, psOf_at.mpr ⟨dd, hxr⟩⟩
        have hab : Con ((psOf rows).take k ++ (psOf rows).drop (k + 1)) t a ↔ Con ((psOf rows).take k ++ (psOf rows).drop (k + 1)) t b := ⟨fun z => .fw z hmem, fun z => .bw z hmem⟩
        unfold Meets at a1 ⊢
        dsimp only at a1 ⊢
        by_cases cc : Con ((psOf rows).take k ++ (psOf rows).drop (k + 1)) t a
        · rw [if_pos cc, if_pos (hab.mp cc)]
          exact dvd_lin2 a1 (Int.dvd_zero m) (by omega)
        · rw [if_neg cc, if_neg fun z => cc (hab.mpr z)]
          exact dvd_lin2 a1 (Int.dvd_zero m) (by omega)
  · by_cases c : ∃ s ∈ W, s.1 = k
    · exact c
    · exfalso
      refine hW q fun x hx r hxr => ?_
      have ck : x.1 ≠ k := fun z => c ⟨x, hx, z⟩
      rw [hr _ ck] at hxr
      exact hq _ _ hxr
end
end Tt
end
section
set_option maxHeartbeats 4000000
namespace Tt
open PySem PySem.Spec PyProof.Rows L2
/-- lists of ints of which none was there in H0 -/
def NwAt (H0 H : Hp) (a : Addr) (gss : List (List Int)) : Prop := ∃ qs : List Addr, H a = some (.lst (qs.map V.ref)) ∧ qs.Nodup ∧ (∀ q ∈ qs, H0 q = none ∧ q ≠ a) ∧ Paired (fun q gs => H q = some (.lst (List.map V.int gs))) qs gss
theorem NwAt.same {H0 H H' : Hp} {a : Addr} {gss : List (List Int)} (h : NwAt H0 H a gss) (e : Same H H') : NwAt H0 H' a gss := by
  obtain ⟨qs, h1, h2, h3, h4⟩ := h
  exact ⟨qs, e _ _ h1, h2, h3, Paired.mapP h4 fun q gs z => e _ _ z⟩
theorem paired_map {α β γ : Type} {F : α → γ → Prop} {G : β → γ → Prop} {f : α → β} (h : ∀ x y, F x y → G (f x) y) : ∀ {xs : List α} {ys : List γ}, Paired F xs ys → Paired G (xs.map f) ys
  | _, _, .nil => .nil
  | _, _, .cons r t => .cons (h _ _ r) (paired_map h t)
theorem NwAt.list {H0 H : Hp} {a : Addr} {gss : List (List Int)} (h : NwAt H0 H a gss) : ListAt (LstR IntR) H a gss := by
  obtain ⟨qs, h1, h2, h3, h4⟩ := h
  exact ⟨_, h1, paired_map (fun q gs z => ⟨q, rfl, ListAt.of_ints z⟩) h4⟩
theorem NwAt.nil {H0 H : Hp} {a : Addr} (h : H a = some (.lst [])) : NwAt H0 H a [] := ⟨[], h, List.nodup_nil, (fun _ h => nomatch h), .nil⟩
theorem Paired.memS {α β : Type} {F : α → β → Prop} : ∀ {xs : List α} {ys : List β} (zs : List α), (∀ x ∈ xs, x ∈ zs) → Paired F xs ys → Paired (fun x y => x ∈ zs ∧ F x y) xs ys
  | _, _, _, _, .nil => .nil
  | _, _, zs, h, .cons r t => .cons ⟨h _ List.mem_cons_self, r⟩ (Paired.memS zs (fun x hx => h x (List.mem_cons_of_mem _ hx)) t)
theorem Paired.mem {α β : Type} {F : α → β → Prop} {xs : List α} {ys : List β} (h : Paired F xs ys) : Paired (fun x y => x ∈ xs ∧ F x y) xs ys := Paired.memS xs (fun _ h => h) h
/-- a list more -/
theorem NwAt.push {H0 H : Hp} {a q : Addr} {gss : List (List Int)} {gs : List Int} (h : NwAt H0 H a gss) (e : ∀ b, H0 b ≠ none → H b ≠ none) {H' : Hp} (e' : Same H H') (hq : H q = none) (hq' : H' q = some (.lst (gs.map V.int))) :
    ∃ zs, H' a = some (.lst zs) ∧ zs.length = gss.length ∧ NwAt H0 (upd H' a (.lst (zs ++ [.ref q]))) a (gss ++ [gs]) := by
  obtain ⟨qs, h1, h2, h3, h4⟩ := h
  have hqa : q ≠ a := (ne_of_none h1 hq).symm
  have hqn : q ∉ qs := fun z => by
    obtain ⟨i, hi⟩ := List.getElem?_of_mem z
    obtain ⟨gs', _, g⟩ := Paired.at2 h4 hi
    rw [hq] at g
    cases g
  have hq0 : H0 q = none := by
    cases c : H0 q with
    | none => rfl
    | some o => exact absurd hq (e q (by rw [c]; exact fun z => nomatch z))
  refine ⟨_, e' _ _ h1, by rw [List.length_map]; exact Paired.length h4, qs ++ [q], ?_, ?_, fun b hb => ?_, ?_⟩
  · rw [upd_same, List.map_append]; rfl
  · rw [List.nodup_append]
    exact ⟨h2, List.nodup_cons.mpr ⟨List.not_mem_nil, List.nodup_nil⟩, fun x hx y hy => by rw [List.mem_singleton.mp hy]; exact fun z => hqn (z ▸ hx)⟩
  · rcases List.mem_append.mp hb with z | z
    · exact h3 b z
    · rw [List.mem_singleton.mp z]; exact ⟨hq0, hqa⟩
  · refine Paired.snoc (Paired.mapP (Paired.mem h4) fun b gs' z => ?_) (by rw [upd_ne hqa]; exact hq')
    rw [upd_ne (h3 b z.1).2]
    exact e' _ _ z.2
/-- one number changed -/
theorem paired_set {H : Hp} {q : Addr} {i : Nat} {gs gs2 : List Int} : ∀ {qs : List Addr} {gss : List (List Int)} {i : Nat}, qs.Nodup → qs[i]? = some q → Paired (fun q gs => H q = some (.lst (List.map V.int gs))) qs gss → Paired (fun b gs => upd H q (.lst (gs2.map V.int)) b = some (.lst (List.map V.int gs))) qs (gss.set i gs2)
  | [], _, i, _, h, _ => by simp at h
  | b :: qs, _, 0, nd, h, .cons r t => by
    simp at h
    subst h
    refine .cons upd_same (Paired.mapP (Paired.mem t) fun c g z => ?_)
    have hcb : c ≠ b := fun e => by rw [e] at z; exact (List.nodup_cons.mp nd).1 z.1
    rw [upd_ne hcb]
    exact z.2
  | b :: qs, _, i + 1, nd, h, .cons r t => by
    have hi : qs[i]? = some q := by simpa using h
    have hb : b ≠ q := fun e => (List.nodup_cons.mp nd).1 (e ▸ List.mem_of_getElem? hi)
    exact .cons (by rw [upd_ne hb]; exact r) (paired_set (i := i) (gs := gs2) (List.nodup_cons.mp nd).2 hi t)
theorem NwAt.set {H0 H : Hp} {a : Addr} {gss : List (List Int)} (h : NwAt H0 H a gss) {i : Nat} {gs : List Int} (hi : gss[i]? = some gs) : ∃ (xs : List V) (q : Addr), H a = some (.lst xs) ∧ xs[i]? = some (.ref q) ∧ H q = some (.lst (gs.map V.int)) ∧ H0 q = none ∧ ∀ gs2, NwAt H0 (upd H q (.lst (gs2.map V.int))) a (gss.set i gs2) := by
  obtain ⟨qs, h1, h2, h3, h4⟩ := h
  obtain ⟨q, hq, hg⟩ := Paired.at_ h4 hi
  have hm := List.mem_of_getElem? hq
  refine ⟨_, q, h1, by rw [List.getElem?_map, hq]; rfl, hg, (h3 q hm).1, fun gs2 => ⟨qs, by rw [upd_ne (h3 q hm).2.symm]; exact h1, h2, h3, paired_set (i := i) (gs := gs2) h2 hq h4⟩⟩
/-- a web is never at the pool -/
theorem web_in {C : Addr} {n : Nat} {m : Int} {H : Hp} {p : Addr} {v : V} {es : Es} (hp : PoolAt H p) (h : WebR C n m H v es) : WebR C n m (Del H p) v es := by
  obtain ⟨x, y, hpp, _⟩ := hp
  obtain ⟨b, dx, ea, fa, la, rfl, h1, h2⟩ := h
  have hb : b ≠ p := ne_of h1 hpp fun z => nomatch z
  obtain ⟨xs, e1, e2⟩ := id h2
  have he : ea ≠ p := fun z => by
    subst z
    rw [hpp] at e1
    cases e1
    obtain ⟨d, _, t, z, _⟩ := Paired.at2 (i := 0) e2 rfl
    cases z
  exact ⟨b, dx, ea, fa, la, rfl, by rw [Del.at_ hb]; exact h1, fresh_list kl_Pair m_Pair ⟨x, y, hpp, by assumption⟩ h2 he⟩
theorem NwAt.ne {H0 H : Hp} {a p : Addr} {gss : List (List Int)} (h : NwAt H0 H a gss) (hp : PoolAt H p) : a ≠ p := by
  rintro rfl
  obtain ⟨qs, h1, _⟩ := h
  obtain ⟨x, y, e, _⟩ := hp
  rw [e] at h1
  cases qs with
  | nil => cases h1
  | cons q qs => cases h1
theorem NwAt.pl {H0 H H' : Hp} {a p : Addr} {gss : List (List Int)} (h : NwAt H0 H a gss) (h0 : PoolAt H0 p) (hp : PoolAt H p) (e : Pl p H H') : NwAt H0 H' a gss := by
  have hap := h.ne hp
  obtain ⟨qs, h1, h2, h3, h4⟩ := h
  exact ⟨qs, e.at_ h1 hap, h2, h3, Paired.mapP (Paired.mem h4) fun q gs z => e.at_ z.2 (h0.ne (h3 q z.1).1)⟩
theorem Pl.out {p : Addr} {H0 H1 H2 : Hp} (e : Same H0 H1) (h : H0 p = none) (a : Pl p H1 H2) : Same H0 H2 := fun b o hb => a.at_ (e b o hb) (ne_of_none hb h)
theorem firstMet_const {ns : List Int} {c : Int} (h : ∀ x ∈ ns, x = c) : ∀ i, i < ns.length → firstMet (fun i => ns.getD i 0) (i + 1) = [c] := by
  intro i
  have hv : ∀ j, j < ns.length → ns.getD j 0 = c := fun j hj => by
    rw [List.getD_eq_getElem?_getD, List.getElem?_eq_getElem hj]
    exact h _ (List.getElem_mem hj)
  induction i with
  | zero =>
    intro hi
    rw [firstMet_succ, firstMet_zero]
    show step_dedup [] (ns.getD 0 0) = [c]
    rw [hv 0 hi]
    rfl
  | succ i ih =>
    intro hi
    rw [firstMet_succ, ih (by omega)]
    show step_dedup [c] (ns.getD (i + 1) 0) = [c]
    rw [hv _ hi]
    unfold step_dedup
    simp
theorem len_const {ns : List Int} {c : Int} (h : ∀ x ∈ ns, x = c) (hne : ns ≠ []) : (firstMet (fun i => ns.getD i 0) ns.length).length = 1 := by
  have hl := List.length_pos_iff.mpr hne
  have := firstMet_const h (ns.length - 1) (by omega)
  rw [show ns.length - 1 + 1 = ns.length by omega] at this
  rw [this]
  rfl
end Tt
end
section
set_option maxHeartbeats 4000000
namespace Tt
open PySem PySem.Spec PyProof.Rows L2
theorem SqL.same {K : PySem.W.Frag} {H H' : Hp} {a : Addr} {xs : List V} (h : SqL K H a xs) (e : Same H H') : SqL K H' a xs :=
  h.elim (fun h => .inl (h.elim (fun h => .inl (e _ _ h)) fun ⟨o, h⟩ => .inr ⟨o, e _ _ h⟩)) fun h => .inr h
theorem Same.kn {H H' : Hp} (e : Same H H') (b : Addr) (h : H b ≠ none) : H' b ≠ none := by
  cases c : H b with
  | none => exact absurd c h
  | some o => rw [e b o c]; exact fun z => nomatch z
section
variable {P : Program} {w : World} {K : PySem.W.Frag} {mg : Str → Option Value} {base : Heap}
def sp_law (K : PySem.W.Frag) : Sp := fun vs H Q _ => ∃ (a : Addr) (ns : List Int), vs = [.ref a] ∧ SqL K H a (ns.map V.int) ∧ ∀ H', Q (.bl true) H'
theorem ok_law (T : Tx K mg) : FnOk P w K mg base CX0 9 T.law.f T.law.fd N_law_ps (sp_law K) := by
  have G_Web_init := ok_Web_init (P := P) (w := w) (base := base) T
  have G_law_flat := ok_law_flat (P := P) (w := w) (base := base) T
  have G_law_groups := ok_law_groups (P := P) (w := w) (base := base) T
  have G_law_is_bridge := ok_law_is_bridge (P := P) (w := w) (base := base) T
  have G_law_joint := ok_law_joint (P := P) (w := w) (base := base) T
  have G_law_mod := ok_law_mod (P := P) (w := w) (base := base) T
  have G_law_pool := ok_law_pool (P := P) (w := w) (base := base) T
  have G_law_residue := ok_law_residue (P := P) (w := w) (base := base) T
  have G_law_take := ok_law_take (P := P) (w := w) (base := base) T
  have G_potential_of := ok_potential_of (P := P) (w := w) (base := base) T
  have G_switch := ok_switch (P := P) (w := w) (base := base) T
  have G_switched := ok_switched (P := P) (w := w) (base := base) T
  have G_transform_all := ok_transform_all (P := P) (w := w) (base := base) T
  refine T.law.F.ok sc_law (fun vs H Q E h => ?_) (fun cdv A outer s H vs Q E hr h => ?_)
  · obtain ⟨a, ns, rfl, ha, k⟩ := h
    rfl
  · obtain ⟨a, ns, rfl, ha, k⟩ := h
    have hu := hu_of hr
    obtain ⟨itsW, bkW⟩ := b_Web T
    obtain ⟨dsT, vT, bT⟩ := b_transform T
    refine ⟨_, PSs.nox (pss_cons (ps_for PassesOwn.never rfl (pi_range1 rfl T.n_range (pa_cons (pe_callB (call_max2 rfl) (by rfl) T.n_max (by decide +kernel) (pa_cons pe_int (pa_cons (pe_callB (call_min2 rfl) (by rfl) T.n_min (by decide +kernel) (pa_cons pe_int (pa_cons (pe_callB call_len_seq (by rfl) T.n_len (by decide +kernel) (pa_cons (pv 0) pa_nil)) pa_nil))) pa_nil))) pa_nil)) (pg_name (i := 1) sc_law.nd rfl (by first | exact Or.inl rfl | exact Or.inr rfl))
        (pss_cons (ps_set (i := 2) sc_law.nd rfl (by first | exact Or.inl rfl | exact Or.inr rfl) (pe_call G_law_pool (hr.mono (by decide)) rfl T.law_pool.m T.law_pool.F.kp T.law_pool.b .nil pass0 (pa_cons (pv 0) (pa_cons (pv 1) pa_nil))))
        (pss_cons (ps_asg (pe_call G_law_joint (hr.mono (by decide)) rfl T.law_joint.m T.law_joint.F.kp T.law_joint.b .nil pass0 (pa_cons (pv 2) pa_nil)) (pg_tup rfl (pgs_cons (pg_name (i := 3) sc_law.nd rfl (by first | exact Or.inl rfl | exact Or.inr rfl)) (pgs_cons (pg_name (i := 4) sc_law.nd rfl (by first | exact Or.inl rfl | exact Or.inr rfl)) (pgs_cons (pg_name (i := 5) sc_law.nd rfl (by first | exact Or.inl rfl | exact Or.inr rfl)) (pgs_cons (pg_name (i := 6) sc_law.nd rfl (by first | exact Or.inl rfl | exact Or.inr rfl)) (pgs_cons (pg_name (i := 7) sc_law.nd rfl (by first | exact Or.inl rfl | exact Or.inr rfl)) (pgs_cons (pg_name (i := 8) sc_law.nd rfl (by first | exact Or.inl rfl | exact Or.inr rfl)) pgs_nil))))))))
        (pss_cons (ps_setLc (i := 9) (own := [("_law_pairs_here", 10)]) (g := gName 10) (tt := tYes) rfl sc_law.nd rfl rfl (sw_true rfl rfl rfl (by decide +kernel)) (pi_list (pv 5)) (blkOk_by (N := N_law) (sc := defScope (top 67)) (by decide +kernel)) (fun _ _ _ _ _ => (pg_name (i := 10) sc_law.nd rfl (by first | exact Or.inl rfl | exact Or.inr rfl))) (fun _ _ _ _ _ => pts_nil) (fun _ _ _ _ _ => (pe_makeN T.mk_Web G_Web_init (hr.mono (by decide)) rfl T.g_Web bkW pass0 (pa_cons (pv 3) (pa_cons (pv 10) pa_nil)) (pk_cons (pv 4) pk_nil))))
        (pss_cons (ps_setLc (i := 11) (own := [("_law_turn", 12)]) (g := gName 12) (tt := tYes) rfl sc_law.nd rfl rfl (sw_true rfl rfl rfl (by decide +kernel)) (pi_range1 rfl T.n_range (pa_cons (pe_call G_law_take (hr.mono (by decide)) rfl T.law_take.m T.law_take.F.kp T.law_take.b .nil pass0 (pa_cons (pv 2) (pa_cons pe_int pa_nil))) pa_nil)) (blkOk_by (N := N_law) (sc := defScope (top 67)) (by decide +kernel)) (fun _ _ _ _ _ => (pg_name (i := 12) sc_law.nd rfl (by first | exact Or.inl rfl | exact Or.inr rfl))) (fun _ _ _ _ _ => pts_nil) (fun _ _ _ _ _ => (pe_tup (pa_cons (pe_call G_law_take (hr.mono (by decide)) rfl T.law_take.m T.law_take.F.kp T.law_take.b .nil pass0 (pa_cons (pv 2) (pa_cons (pv 3) pa_nil))) (pa_cons (pe_call G_law_residue (hr.mono (by decide)) rfl T.law_residue.m T.law_residue.F.kp T.law_residue.b .nil pass0 (pa_cons (pv 2) (pa_cons (pv 4) pa_nil))) pa_nil)))))
        (pss_cons (ps_setLc (i := 7) (own := [("_law_old", 13)]) (g := gName 13) (tt := tYes) rfl sc_law.nd rfl rfl (sw_true rfl rfl rfl (by decide +kernel)) (pi_list (pv 6)) (blkOk_by (N := N_law) (sc := defScope (top 67)) (by decide +kernel)) (fun _ _ _ _ _ => (pg_name (i := 13) sc_law.nd rfl (by first | exact Or.inl rfl | exact Or.inr rfl))) (fun _ _ _ _ _ => pts_nil) (fun _ _ _ _ _ => (pe_callTy (call_list_ofB (K := K) rfl) (by rfl) T.n_list (by decide +kernel) (pa_cons (pv 13) pa_nil))))
        (pss_cons (ps_for PassesOwn.never rfl (pi_list (pv 11)) (pg_tup rfl (pgs_cons (pg_name (i := 14) sc_law.nd rfl (by first | exact Or.inl rfl | exact Or.inr rfl)) (pgs_cons (pg_name (i := 15) sc_law.nd rfl (by first | exact Or.inl rfl | exact Or.inr rfl)) pgs_nil)))
          (pss_one (ps_setLc (i := 7) (own := [("_law_web", 16), ("_law_new", 17)]) (tt := tYes) rfl sc_law.nd rfl rfl (sw_true rfl rfl rfl (by decide +kernel)) (pi_zip (by rfl) T.n_zip (pa_cons (pv 9) (pa_cons (pv 7) pa_nil))) (blkOk_by (N := N_law) (sc := defScope (top 67)) (by decide +kernel)) (fun _ _ _ _ _ => (pg_tupB (K := K) (n := 2) rfl rfl (pgs_cons (pg_name (i := 16) sc_law.nd rfl (by first | exact Or.inl rfl | exact Or.inr rfl)) (pgs_cons (pg_name (i := 17) sc_law.nd rfl (by first | exact Or.inl rfl | exact Or.inr rfl)) pgs_nil)))) (fun _ _ _ _ _ => pts_nil) (fun _ _ _ _ _ => (pe_call G_switch (hr.mono (by decide)) rfl T.switch.m T.switch.F.kp T.switch.b .nil pass0 (pa_cons (pv 16) (pa_cons (pv 17) (pa_cons (pv 14) (pa_cons (pv 15) pa_nil)))))))))
        (pss_cons (ps_asg (pe_call G_transform_all (hr.mono (by decide)) rfl T.transform_all_m T.transform_all_F.kp bT vT pass0 (pa_cons (pv 9) (pa_cons (pv 6) (pa_cons (pv 7) pa_nil)))) (pg_tup rfl (pgs_cons (pg_name (i := 18) sc_law.nd rfl (by first | exact Or.inl rfl | exact Or.inr rfl)) (pgs_cons (pg_name (i := 19) sc_law.nd rfl (by first | exact Or.inl rfl | exact Or.inr rfl)) pgs_nil))))
        (pss_cons (ps_if (pt_cmpR op_ne (pv 18) pe_str (nomark _)) (pss_one (ps_ret pe_bl)) pss_nil)
        (pss_cons (ps_if (pt_cmpR (op_neD hr.units) (pe_lc (own := [("_law_web", 16), ("_law_old", 13)]) (tt := tYes) rfl sc_law.nd (pi_zip (by rfl) T.n_zip (pa_cons (pv 9) (pa_cons (pv 6) pa_nil))) (blkOk_by (N := N_law) (sc := defScope (top 67)) (by decide +kernel)) (fun _ _ _ _ _ => (pg_tupB (K := K) (n := 2) rfl rfl (pgs_cons (pg_name (i := 16) sc_law.nd rfl (by first | exact Or.inl rfl | exact Or.inr rfl)) (pgs_cons (pg_name (i := 13) sc_law.nd rfl (by first | exact Or.inl rfl | exact Or.inr rfl)) pgs_nil)))) (fun _ _ _ _ _ => pts_nil) (fun _ _ _ _ _ => (pe_call G_switched (hr.mono (by decide)) rfl T.switched.m T.switched.F.kp T.switched.b .nil pass0 (pa_cons (pv 16) (pa_cons (pv 13) (pa_cons (pv 19) pa_nil)))))) (pv 7) (nomark _)) (pss_one (ps_ret pe_bl)) pss_nil)
        (pss_cons (ps_set (i := 20) sc_law.nd rfl (by first | exact Or.inl rfl | exact Or.inr rfl) (pe_call G_potential_of (hr.mono (by decide)) rfl T.potential_of.m T.potential_of.F.kp T.potential_of.b .nil pass0 (pa_cons (pe_ix ix_list (pv 9) pe_int (fun _ _ => rfl)) (pa_cons (pv 11) pa_nil))))
        (pss_cons (ps_for PassesOwn.never rfl (pi_list (pe_call G_law_groups (hr.mono (by decide)) rfl T.law_groups.m T.law_groups.F.kp T.law_groups.b .nil pass0 (pa_cons (pv 3) (pa_cons (pe_call G_law_flat (hr.mono (by decide)) rfl T.law_flat.m T.law_flat.F.kp T.law_flat.b .nil pass0 (pa_cons (pv 5) pa_nil)) pa_nil)))) (pg_name (i := 21) sc_law.nd rfl (by first | exact Or.inl rfl | exact Or.inr rfl))
          (pss_one (ps_if (pt_cmpR op_ne (pe_lenSetL rfl T.n_len rfl T.n_set (pe_lc (own := [("_law_spot", 22)]) (g := gName 22) (tt := tYes) rfl sc_law.nd (pi_list (pv 21)) (blkOk_by (N := N_law) (sc := defScope (top 67)) (by decide +kernel)) (fun _ _ _ _ _ => (pg_name (i := 22) sc_law.nd rfl (by first | exact Or.inl rfl | exact Or.inr rfl))) (fun _ _ _ _ _ => pts_nil) (fun _ _ _ _ _ => (pe_call G_law_mod (hr.mono (by decide)) rfl T.law_mod.m T.law_mod.F.kp T.law_mod.b .nil pass0 (pa_cons (pv 4) (pa_cons (pe_op op_sub (pe_ix (ix_listB (K := K) rfl) (pv 19) (pv 22) (fun _ _ => rfl)) (pe_ix (ix_listB (K := K) rfl) (pv 20) (pv 22) (fun _ _ => rfl))) pa_nil)))))) pe_int (nomark _)) (pss_one (ps_ret pe_bl)) pss_nil)))
        (pss_cons (ps_set (i := 23) sc_law.nd rfl (by first | exact Or.inl rfl | exact Or.inr rfl) (pe_call G_law_take (hr.mono (by decide)) rfl T.law_take.m T.law_take.F.kp T.law_take.b .nil pass0 (pa_cons (pv 2) (pa_cons (pe_callB call_len_seq (by rfl) T.n_len (by decide +kernel) (pa_cons (pv 5) pa_nil)) pa_nil))))
        (pss_one (ps_if (pt_cmpR (op_neD hr.units) (pe_ix ix_list (pv 5) (pv 23) (fun _ _ => rfl)) (pe_lst pa_nil) (nomark _)) (pss_cons (ps_set (i := 22) sc_law.nd rfl (by first | exact Or.inl rfl | exact Or.inr rfl) (pe_call G_law_take (hr.mono (by decide)) rfl T.law_take.m T.law_take.F.kp T.law_take.b .nil pass0 (pa_cons (pv 2) (pa_cons (pe_callB call_len_seq (by rfl) T.n_len (by decide +kernel) (pa_cons (pe_ix ix_list (pv 5) (pv 23) (fun _ _ => rfl)) pa_nil)) pa_nil))))
          (pss_cons (ps_asg (pe_call G_law_mod (hr.mono (by decide)) rfl T.law_mod.m T.law_mod.F.kp T.law_mod.b .nil pass0 (pa_cons (pv 4) (pa_cons (pe_op op_add (pe_ix ix_list (pe_ix ix_list (pv 7) (pv 23) (fun _ _ => rfl)) (pv 22) (fun _ _ => rfl)) pe_int) pa_nil))) (pg_sub (pe_ix ix_list (pv 7) (pv 23) (fun _ _ => rfl)) (pv 22) set_list))
          (pss_cons (ps_asg (pe_call G_transform_all (hr.mono (by decide)) rfl T.transform_all_m T.transform_all_F.kp bT vT pass0 (pa_cons (pv 9) (pa_cons (pv 6) (pa_cons (pv 7) pa_nil)))) (pg_tup rfl (pgs_cons (pg_name (i := 18) sc_law.nd rfl (by first | exact Or.inl rfl | exact Or.inr rfl)) (pgs_cons (pg_name (i := 19) sc_law.nd rfl (by first | exact Or.inl rfl | exact Or.inr rfl)) pgs_nil))))
          (pss_cons (ps_if (pt_cmpR op_ne (pe_cmpR op_eq (pv 18) pe_str (nomark _)) (pe_call G_law_is_bridge (hr.mono (by decide)) rfl T.law_is_bridge.m T.law_is_bridge.F.kp T.law_is_bridge.b .nil pass0 (pa_cons (pv 3) (pa_cons (pv 5) (pa_cons (pv 23) (pa_cons (pv 22) pa_nil))))) (nomark _)) (pss_one (ps_ret pe_bl)) pss_nil)
          (pss_cons (ps_if (pt_cmpR op_eq (pv 18) pe_str (nomark _)) (pss_one (ps_ret pe_bl)) pss_nil)
          (pss_one (ps_if (PW.pt (pw_and (pt_cmpR op_eq (pv 18) pe_str (nomark _)) (pw_and1 (pt_cmpR (op_notInD (hu65 hr)) (pe_tup (pa_cons (pv 23) (pa_cons (pv 22) pa_nil))) (pe_lc (own := [("_law_entry", 24)]) (g := gName 24) (tt := tYes) rfl sc_law.nd (pi_list (pv 19)) (blkOk_by (N := N_law) (sc := defScope (top 67)) (by decide +kernel)) (fun _ _ _ _ _ => (pg_name (i := 24) sc_law.nd rfl (by first | exact Or.inl rfl | exact Or.inr rfl))) (fun _ _ _ _ _ => pts_nil) (fun _ _ _ _ _ => (pe_slice (sl_tupB (K := K) rfl) (pv 24) po_none (po_some pe_int)))) rfl)))) (pss_one (ps_ret pe_bl)) pss_nil))))))) pss_nil)))))))))))))))
      (pss_one (ps_ret pe_bl))), ?_⟩
    refine ⟨_, rfl, _, _, rfl, .inl ha, _, _, rfl, _, _, rfl, ?_⟩
    obtain ⟨lim, hlim, hlim4⟩ : ∃ lim : Nat, (if (if ((ns.map V.int).length : Int) < 4 then ((ns.map V.int).length : Int) else 4) > 1 then (if ((ns.map V.int).length : Int) < 4 then ((ns.map V.int).length : Int) else 4) else 1) = (lim : Int) ∧ lim ≤ 4 := by
      generalize (ns.map V.int).length = N
      refine ⟨max 1 (min 4 N), ?_, by omega⟩
      by_cases c : (N : Int) < 4
      · rw [if_pos c]
        split <;> omega
      · rw [if_neg c, if_pos (by decide)]
        omega
    rw [hlim]
    refine ⟨(lim : Int), rfl, by omega, by omega, for_it (walk_range (lo := 0) (n := (lim : Int).toNat)) (fun i σ H2 => ∃ (u1 u2 u3 u4 u5 u6 u7 u8 u9 u10 u11 u12 u13 u14 u15 u16 u17 u18 u19 u20 u21 u22 u23 u24 : Option V), σ = [some (.ref a), u1, u2, u3, u4, u5, u6, u7, u8, u9, u10, u11, u12, u13, u14, u15, u16, u17, u18, u19, u20, u21, u22, u23, u24] ∧ Same H H2)
      ⟨_, _, _, _, _, _, _, _, _, _, _, _, _, _, _, _, _, _, _, _, _, _, _, _, rfl, Same.refl _⟩ (fun _ _ _ _ _ => trivial) ?_ ?_⟩
    · rintro i x σ Hx H2 hi ⟨u1, u2, u3, u4, u5, u6, u7, u8, u9, u10, u11, u12, u13, u14, u15, u16, u17, u18, u19, u20, u21, u22, u23, u24, rfl, e2⟩ ⟨rfl, hx⟩
      rw [Int.toNat_natCast] at hi
      have hx : x = V.int (i : Int) := by rw [hx]; show V.int (0 + (i : Int)) = _; rw [Int.zero_add]
      subst hx
      refine ⟨_, rfl, _, rfl, a, ns, i, rfl, SqL.same ha e2, by omega, fun H1 p e1 hp0 hp => ?_⟩
      refine ⟨_, rfl, p, rfl, hp, fun H3 t n m la oa L gss v v' e3 ht h1n hn7 hm hL hO hg hes l1 l6 => ?_⟩
      refine ⟨t, _, rfl, SqT.of ht, rfl, _, _, rfl, _, _, rfl, _, _, rfl, _, _, rfl, _, _, rfl, _, _, rfl, rfl, ?_⟩
      have e23 : Same H2 H3 := Pl.out e1 hp0 e3
      -- the webs
      obtain ⟨ls, q1, q2⟩ := out_list (m_Lst m_Pair) hL
      have hlsl := Paired.length q2
      refine ⟨_, rfl, la, rfl, ⟨_, SqL.of q1⟩, fun wa hwa => ?_⟩
      have hwap := e3.pool.ne hwa
      refine lc_list (K := K) (a := la) (xs := ls) (fun j H4 => Same H3 H4 ∧ ∃ zs, H4 wa = some (.lst zs) ∧ Paired (WebR T.Web n m (Del H4 wa)) zs (L.take j)) ⟨Same.new hwa, [], upd_same, .nil⟩ (fun j H4 _ ⟨e, _⟩ => SqL.of (e _ _ q1)) ?_ ?_
      · rintro j y H4 hj ⟨e4, zs, h4, hz⟩
        obtain ⟨es, he, a2, rfl, ha2⟩ := Paired.at2 q2 hj
        obtain ⟨ed, el⟩ := hes es (List.mem_of_getElem? he)
        have hjl := (List.getElem?_eq_some_iff.mp he).1
        refine ⟨rfl, ?_⟩
        refine ⟨_, rfl, _, rfl, _, rfl, rfl, rfl, fun x dx hxn hdx hne => ?_⟩
        have n1 : Same H4 (upd H4 dx (.own x)) := Same.new hdx
        have n2 : Same (upd H4 dx (.own x)) (upd (upd H4 dx (.own x)) x (.ins T.Web dx [])) := Same.new (by rw [upd_ne hne.symm]; exact hxn)
        have hwx : wa ≠ x := ne_of_none h4 hxn
        refine ⟨x, dx, a2, n, m, es, rfl, upd_same, ((ha2.same m_Pair e4).same m_Pair n1).same m_Pair n2, ed, h1n, by omega, by omega, hm, fun H5 l dx' fa la0 fr hl hx5 hls => ⟨rfl, ?_⟩⟩
        have e45 : Same H4 H5 := fun b o hb => fr b o (n2 _ _ (n1 _ _ hb)) (ne_of_none hb hxn)
        have h5 := e45 _ _ h4
        have hlw : l ≠ wa := (ne_of_none (n2 _ _ (n1 _ _ h4)) hl).symm
        refine ⟨zs, h5, ?_, Same.mut (e4.trans e45) hwa, zs ++ [.ref x], upd_same, ?_⟩
        · rw [Paired.length hz, List.length_take]; exact szl _ (by omega)
        have st : Same (Del H5 wa) (Del (upd H5 wa (.lst (zs ++ [.ref x]))) wa) := fun b o hb => by
          obtain ⟨c1, hb⟩ := Del.in_ hb
          rw [Del.at_ c1, upd_ne c1]
          exact hb
        rw [take1 he]
        refine Paired.mono m_Web st (Paired.snoc (Paired.mono m_Web (Del.mono wa e45) hz) ⟨x, dx', l, fa, la0, rfl, by rw [Del.at_ hwx.symm]; exact hx5, ?_⟩)
        obtain ⟨ys, y1, y2⟩ := hls
        exact ⟨ys, by rw [Del.at_ hlw]; exact y1, Paired.mapP y2 fun v y q => kl_Pair _ _ _ _ _ h5 q⟩
      rintro H4 ⟨e4, zw, h4, hz⟩
      rw [hlsl, List.take_length] at hz
      have E4 := Pl.of e4 e3.pool
      have hWb4 : ListAt (WebR T.Web n m) (Del H4 p) wa L := ⟨zw, by rw [Del.at_ hwap]; exact h4, Paired.mapP (Paired.mono m_Web (Del.same H4 wa) hz) fun v es q => web_in E4.pool q⟩
      -- the switches
      refine ⟨_, rfl, p, 11, rfl, E4.pool, by decide, by decide, fun H5 r e5 r0 r1 => ?_⟩
      refine ⟨r, rfl, by omega, by omega, fun da hda => ?_⟩
      have hdap := e5.pool.ne hda
      refine lc_it (walk_range (lo := 0) (n := r.toNat)) (fun j H6 => Pl p H5 H6 ∧ ∃ (ds : List (Nat × Int)), ListAt StepR (Del H6 p) da ds ∧ ds.length = j ∧ ∀ d ∈ ds, d.1 < n) ⟨Pl.new e5.pool hda, [], ⟨[], by rw [Del.at_ hdap]; exact upd_same, .nil⟩, rfl, fun _ h => nomatch h⟩ (fun _ _ _ _ => trivial) ?_ ?_
      · rintro j x Hx H6 hj ⟨e6, ds, hds, hdl, hdn⟩ ⟨rfl, rfl⟩
        refine ⟨rfl, _, rfl, _, rfl, p, n, rfl, e6.pool, by omega, by omega, fun H7 nd e7 n0 n1 => ?_⟩
        refine ⟨_, rfl, _, rfl, p, m, rfl, e7.pool, hm, fun H8 am e8 _ => ?_⟩
        refine ⟨(by show 2 ≤ sizeLine; decide), fun q hq => ?_⟩
        obtain ⟨nd, rfl⟩ := Int.eq_ofNat_of_zero_le n0
        have n9 := Pl.new (o := .tup [.int (nd : Nat), .int am]) e8.pool hq
        have e89 := e7.trans (e8.trans n9)
        have hds9 := e89.list m_Step hds
        obtain ⟨zs, z1, z2⟩ := out_list m_Step hds9
        have e09 := e6.trans e89
        have hq9 : upd H8 q (.tup [.int (nd : Nat), .int am]) q = some (.tup [.int (nd : Nat), .int am]) := upd_same
        generalize upd H8 q (.tup [.int (nd : Nat), .int am]) = H9 at z1 z2 e09 hq9
        have e10 := Pl.mut (o := .lst (zs ++ [.ref q])) e09 hda hdap
        refine ⟨_, z1, ?_, e10, ds ++ [(nd, am)], fresh_list kl_Step m_Step e10.pool (list_push m_Step kl_Step z1 z2 (y := (nd, am)) ⟨q, rfl, hq9⟩) hdap, by rw [List.length_append, hdl]; rfl, fun d hd => ?_⟩
        · rw [Paired.length z2, hdl]; exact szl _ (by omega)
        · rcases List.mem_append.mp hd with h | h
          · exact hdn d h
          · rw [List.mem_singleton.mp h]; show nd < n; omega
      rintro H6 ⟨e6, ds, hds, hdl, hdn⟩
      have E6 := E4.trans (e5.trans e6)
      have hL6 := E6.list (m_Lst m_Pair) hL
      have hO6 := E6.list (m_Lst m_Int) hO
      have hWb6 := (e5.trans e6).list m_Web hWb4
      have hp6 := e6.pool
      have e26 : Same H2 H6 := Pl.out e1 hp0 (e3.trans E6)
      have hed : EdOk n L.flatten := fun e he => by
        obtain ⟨es, h1, h2⟩ := List.mem_flatten.mp he
        exact (hes es h1).1 e h2
      have hgl := Paired.length hg
      -- the news
      obtain ⟨os, s1, s2⟩ := out_list (m_Lst m_Int) hO6
      have hosl := Paired.length s2
      refine ⟨_, rfl, oa, rfl, ⟨_, SqL.of s1⟩, fun nw0 hnw0 => ?_⟩
      refine lc_list (K := K) (a := oa) (xs := os) (fun j H7 => Same H6 H7 ∧ NwAt H6 H7 nw0 (gss.take j)) ⟨Same.new hnw0, NwAt.nil upd_same⟩ (fun j H7 _ ⟨e, _⟩ => SqL.of (e _ _ s1)) ?_ ?_
      · rintro j y H7 hj ⟨e7, hN⟩
        obtain ⟨gs, hgs, o2, rfl, ho2⟩ := Paired.at2 s2 hj
        have hjl := (List.getElem?_eq_some_iff.mp hgs).1
        refine ⟨rfl, ?_⟩
        refine ⟨_, rfl, o2, _, rfl, .inl (SqL.of (e7 _ _ ho2.ints)), fun l hl => ?_⟩
        obtain ⟨zs, z1, z2, z3⟩ := NwAt.push hN (Same.kn e7) (Same.new (o := .lst (gs.map V.int)) hl) hl upd_same
        refine ⟨zs, z1, ?_, Same.mut (e7.trans (Same.new hl)) hnw0, by rw [take1 hgs]; exact z3⟩
        rw [z2, List.length_take]; exact szl _ (by omega)
      rintro H7 ⟨e7, hN7⟩
      rw [hosl, List.take_length] at hN7
      obtain ⟨xd, d1, d2⟩ := out_list m_Step hds
      have hxdl := Paired.length d2
      refine ⟨_, rfl, da, rfl, ⟨_, SqL.of (e7 _ _ d1)⟩, for_list (K := K) (a := da) (xs := xd) (fun j σ H8 => ∃ (nw : Addr) (u8 u10 u12 u13 u14 u15 u16 u17 u18 u19 u20 u21 u22 u23 u24 : Option V), σ = [some (.ref a), some (.int i), some (.ref p), some (.int n), some (.int m), some (.ref la), some (.ref oa), some (.ref nw), u8, some (.ref wa), u10, some (.ref da), u12, u13, u14, u15, u16, u17, u18, u19, u20, u21, u22, u23, u24] ∧ Same H6 H8 ∧ NwAt H6 H8 nw (newsAt m n L gss (ds.take j)))
        ⟨nw0, _, _, _, _, _, _, _, _, _, _, _, _, _, _, _, rfl, e7, by rw [List.take_zero, news_zero hm hg]; exact hN7⟩ (fun j σ H8 _ ⟨_, _, _, _, _, _, _, _, _, _, _, _, _, _, _, _, _, e, _⟩ => SqL.of (e _ _ d1)) ?_ ?_⟩
      · rintro j y σ H8 hj ⟨nw, u8, u10, u12, u13, u14, u15, u16, u17, u18, u19, u20, u21, u22, u23, u24, rfl, e8, hN⟩
        obtain ⟨⟨nd, am⟩, hdj, t2, rfl, ht2⟩ := Paired.at2 d2 hj
        have hnd : nd < n := hdn _ (List.mem_of_getElem? hdj)
        refine ⟨t2, _, rfl, SqT.of (e8 _ _ ht2), rfl, _, _, rfl, _, _, rfl, rfl, ?_⟩
        obtain ⟨ww, w1, w2⟩ := out_list m_Web hWb6
        obtain ⟨xs8, x1, x2⟩ := hN.list
        have hwl := Paired.length w2
        have hxl := Paired.length x2
        rw [news_len hg] at hxl
        refine ⟨_, rfl, _, rfl, wa, nw, ww, xs8, rfl, SqL.of (e8 _ _ w1), SqL.of x1, fun D hD => ?_⟩
        refine lc_it (walk_zip (K := K) (a := wa) (b := nw) (xs := ww) (ys := xs8) (n := L.length) (by omega)) (fun j2 H9 => Same H8 H9 ∧ NwAt H6 H9 D ((newsAt m n L gss (ds.take (j + 1))).take j2)) ⟨Same.new hD, NwAt.nil upd_same⟩ (fun j2 H9 _ ⟨e, _⟩ => ⟨SqL.of (e _ _ (e8 _ _ w1)), SqL.of (e _ _ x1)⟩) ?_ ?_
        · rintro j2 x H9 H10 hj2 ⟨e9, hN9⟩ ⟨T0, p1, p2, rfl, hT0, rfl, hp1, hp2⟩
          obtain ⟨es, he, hW⟩ := Paired.at2 w2 hp1
          obtain ⟨g2, hg2, q, rfl, hq⟩ := Paired.at2 x2 hp2
          obtain ⟨os', ho1, ho2, ho3⟩ := hg.at2 he
          obtain ⟨ed, el⟩ := hes es (List.mem_of_getElem? he)
          rw [news_at hg he ho1] at hg2
          cases hg2
          have n1 : Same H9 (upd H9 T0 (.tup [p1, .ref q])) := Same.new hT0
          have e10 := e9.trans n1
          refine ⟨T0, _, rfl, SqT.of upd_same, rfl, _, _, rfl, _, _, rfl, rfl, rfl, ?_⟩
          refine ⟨_, rfl, _, rfl, _, rfl, _, rfl, p1, q, nd, am, _, n, m, es, rfl, m_Web _ _ _ _ (e8.trans e10) hW, hm, ed, by omega, ⟨e10 _ _ hq.ints, led_res⟩, led_len ho2, by rw [led_len ho2]; omega, hnd, fun H11 nl e11 hnl h11 => ?_⟩
          rw [led_step hm ho2 hnd, ← take1 hdj] at h11
          obtain ⟨zs, z1, z2, z3⟩ := NwAt.push (hN9.same n1) (Same.kn (e8.trans e10)) e11 hnl h11
          refine ⟨zs, z1, ?_, Same.mut (e10.trans e11) hD, by rw [take1 (news_at hg he ho1)]; exact z3⟩
          rw [z2, List.length_take]; exact szl _ (by omega)
        rintro H9 ⟨e9, hN9⟩
        rw [List.take_of_length_le (by rw [news_len hg]; exact Nat.le_refl _)] at hN9
        exact ⟨D, _, _, _, _, _, _, _, _, _, _, _, _, _, _, _, rfl, e8.trans e9, hN9⟩
      rintro σ H8 ⟨nw, u8, u10, u12, u13, u14, u15, u16, u17, u18, u19, u20, u21, u22, u23, u24, rfl, e8, hN8⟩
      rw [hxdl, List.take_length] at hN8
      have hes60 : ∀ es ∈ L, es.length ≤ 60 ∧ EdOk n es := fun es h => ⟨by have := (hes es h).2; omega, (hes es h).1⟩
      refine ⟨_, rfl, _, rfl, _, rfl, wa, oa, nw, T.eT, n, m, L, gss, newsAt m n L gss ds, rfl, (out_list m_Web hWb6).same m_Web e8, (out_list (m_Lst m_Int) hO6).same (m_Lst m_Int) e8, hN8.list, hg, news_ok hg, hm, l1, l6, hes60, by omega, T.heT, fun H9 r ⟨e9, ans⟩ => ?_⟩
      obtain ⟨fa, f, f1, f2, f3, f4, f5⟩ : ∃ (fa : Addr) (f : List Int), H9 r = some (.tup [.str "potential", .ref fa]) ∧ H9 fa = some (.lst (f.map V.int)) ∧ f.length = n ∧ (∀ x ∈ f, Res m x) ∧ Sol m (rowsL L gss (newsAt m n L gss ds)).flatten (fn f) := by
        rcases ans with h | ⟨wc, W, js, _, _, hE, _⟩
        · exact h
        · exact absurd (fun x _ r hr => news_sol hg _ _ hr) (hE (fn (potOf m n ds)))
      refine ⟨r, _, rfl, SqT.of f1, rfl, _, _, rfl, _, _, rfl, rfl, ?_⟩
      refine ⟨_, rfl, rfl, _, rfl, iteNS rfl ?_⟩
      have e69 := e8.trans e9
      have hN9 := hN8.same e9
      -- the olds, switched by the potential
      obtain ⟨ww, w1, w2⟩ := out_list m_Web hWb6
      have hwl := Paired.length w2
      refine ⟨_, rfl, _, rfl, wa, oa, ww, os, rfl, SqL.of (e69 _ _ w1), SqL.of (e69 _ _ s1), fun D hD => ?_⟩
      refine lc_it (walk_zip (K := K) (a := wa) (b := oa) (xs := ww) (ys := os) (n := L.length) (by omega)) (fun j2 H10 => Same H9 H10 ∧ NwAt H9 H10 D ((newsAt m n L gss ds).take j2)) ⟨Same.new hD, NwAt.nil upd_same⟩ (fun j2 H10 _ ⟨e, _⟩ => ⟨SqL.of (e _ _ (e69 _ _ w1)), SqL.of (e _ _ (e69 _ _ s1))⟩) ?_ ?_
      · rintro j2 x H10 H11 hj2 ⟨e10, hN10⟩ ⟨T0, p1, p2, rfl, hT0, rfl, hp1, hp2⟩
        obtain ⟨es, he, hW⟩ := Paired.at2 w2 hp1
        obtain ⟨gs, hgs, q, rfl, hq⟩ := Paired.at2 s2 hp2
        obtain ⟨os', ho1, ho2, ho3⟩ := hg.at2 he
        rw [hgs] at ho1
        cases ho1
        obtain ⟨ed, el⟩ := hes es (List.mem_of_getElem? he)
        have n1 : Same H10 (upd H10 T0 (.tup [p1, .ref q])) := Same.new hT0
        have e11 := e10.trans n1
        refine ⟨T0, _, rfl, SqT.of upd_same, rfl, _, _, rfl, _, _, rfl, rfl, rfl, ?_⟩
        refine ⟨_, rfl, _, rfl, _, rfl, p1, q, fa, gs, f, n, m, es, rfl, m_Web _ _ _ _ (e69.trans e11) hW, hm, ed, by omega, ⟨(e69.trans e11) _ _ hq.ints, ho3⟩, ho2, by omega, ⟨e11 _ _ f2, f4⟩, f3, fun H12 nl e12 hnl h12 => ?_⟩
        rw [sol_news hm hg f5 he hgs] at h12
        obtain ⟨zs, z1, z2, z3⟩ := NwAt.push (hN10.same n1) (Same.kn e11) e12 hnl h12
        refine ⟨zs, z1, ?_, Same.mut (e11.trans e12) hD, by rw [take1 (news_at hg he hgs)]; exact z3⟩
        rw [z2, List.length_take]; exact szl _ (by omega)
      rintro H10 ⟨e10, hN10⟩
      rw [List.take_of_length_le (by rw [news_len hg]; exact Nat.le_refl _)] at hN10
      refine ⟨_, rfl, _, _, dp_intss hN10.list, dp_intss (hN9.same e10).list, lay_shaped (lay_intss _) (by decide), lay_shaped (lay_intss _) (by decide), _, rfl, ?_⟩
      rw [SeqAt.eqv_refl _ (lay_intss _).1]
      refine iteF ?_
      have e610 := e69.trans e10
      have hN10 := hN9.same e10
      have hf10 := e10 _ _ f2
      obtain ⟨es0, hes0⟩ : ∃ es0, L[0]? = some es0 := ⟨_, List.getElem?_eq_getElem (by omega)⟩
      obtain ⟨x0v, hx0, hW0⟩ := Paired.at_ w2 hes0
      refine ⟨_, rfl, wa, _, _, _, rfl, rfl, SqL.of (e610 _ _ w1), atI_nat (j := 0) hx0, _, rfl, x0v, da, ds, n, m, es0, rfl, m_Web _ _ _ _ e610 hW0, (out_list m_Step hds).same m_Step e610, hdn, by omega, fun H11 pa e11 _ h11 => ?_⟩
      have e611 := e610.trans e11
      have h60 : ∀ es ∈ L, es.length ≤ 60 := fun es h => (hes60 es h).1
      refine ⟨_, rfl, _, rfl, la, L, rfl, (out_list (m_Lst m_Pair) hL6).same (m_Lst m_Pair) e611, h60, l6, fun H12 ff e12 _ hff => ?_⟩
      refine ⟨n, ff, _, rfl, hff, hed, h1n, by omega, fun H13 g0 G e13 _ hg0 hG => ?_⟩
      obtain ⟨gx, gx1, gx2⟩ := id hg0
      have e613 := e611.trans (e12.trans e13)
      have hf13 := e13 _ _ (e12 _ _ (e11 _ _ hf10))
      have hd13 := e13 _ _ (e12 _ _ h11)
      have hN13 := hN10.same (e11.trans (e12.trans e13))
      refine ⟨g0, rfl, ⟨_, SqL.of gx1⟩, for_list (K := K) (a := g0) (xs := gx) (fun j σ H14 => ∃ (u21 u22 u23 u24 : Option V), σ = [some (.ref a), some (.int i), some (.ref p), some (.int n), some (.int m), some (.ref la), some (.ref oa), some (.ref nw), u8, some (.ref wa), u10, some (.ref da), u12, u13, u14, u15, u16, u17, some (.str "potential"), some (.ref fa), some (.ref pa), u21, u22, u23, u24] ∧ Same H13 H14) ⟨_, _, _, _, rfl, Same.refl _⟩ (fun j σ H14 _ ⟨_, _, _, _, _, e⟩ => SqL.of (e _ _ gx1)) ?_ ?_⟩
      · rintro j y σ H14 hj ⟨u21, u22, u23, u24, rfl, e14⟩
        obtain ⟨g, hgj, ga, rfl, hga⟩ := Paired.at2 gx2 hj
        obtain ⟨R, _, _, _, hGm⟩ := hG
        obtain ⟨hgne, hgl, hgc⟩ := hGm g (List.mem_of_getElem? hgj)
        have hg14 := e14 _ _ hga.nats
        refine ⟨_, rfl, ga, rfl, ⟨_, SqL.of hg14⟩, fun D hD => ?_⟩
        have hgl30 : g.length ≤ 1000 := by omega
        refine lc_list (K := K) (a := ga) (xs := g.map fun v : Nat => V.int (v : Int)) (fun j2 H15 => Same H14 H15 ∧ H15 D = some (.lst (((g.take j2).map fun v => red m (fn f v - fn (potOf m n ds) v)).map V.int))) ⟨Same.new hD, upd_same⟩ (fun j2 H15 _ ⟨e, _⟩ => SqL.of (e _ _ hg14)) ?_ ?_
        · rintro j2 y2 H15 hj2 ⟨e15, h15⟩
          obtain ⟨v, hv, rfl⟩ := nv_get hj2
          have hjl := (List.getElem?_eq_some_iff.mp hv).1
          have hvn := (hgc v (List.mem_of_getElem? hv) v (List.mem_of_getElem? hv)).1
          refine ⟨rfl, ?_⟩
          refine ⟨_, rfl, _, rfl, _, rfl, fa, _, _, _, rfl, rfl, SqL.of (e15 _ _ (e14 _ _ hf13)), ints_at (by rw [f3]; exact hvn), _, rfl, _, rfl, pa, _, _, _, rfl, rfl, SqL.of (e15 _ _ (e14 _ _ hd13)), ints_at (by rw [potOf_len]; exact hvn), _, _, rfl, rfl, m, _, rfl, ?_⟩
          refine ⟨_, h15, ?_, Same.mut e15 hD, ?_⟩
          · rw [List.length_map, List.length_map, List.length_take]; exact szl _ (by omega)
          · rw [upd_same, take1 hv, List.map_append, List.map_append]
            rfl
        rintro H15 ⟨e15, h15⟩
        rw [List.length_map, List.take_length] at h15
        refine ⟨D, _, rfl, SqL.of h15, by rw [List.length_map]; exact hgl30, rfl, _, rfl, iteNS ?_ ?_⟩
        · cases hg0' : g with
          | nil => exact absurd hg0' hgne
          | cons v0 g' =>
            rw [← hg0']
            have hv0 : v0 ∈ g := by rw [hg0']; exact List.mem_cons_self
            rw [len_const (c := red m (fn f v0 - fn (potOf m n ds) v0)) (fun x hx => by
              obtain ⟨v, hv, rfl⟩ := List.mem_map.mp hx
              exact sol_const hm hg f5 (hgc v hv v0 hv0).2.2) (by rw [hg0']; exact fun z => nomatch z)]
            rfl
        · exact ⟨_, _, _, _, rfl, e14.trans e15⟩
      rintro σ H14 ⟨u21, u22, u23, u24, rfl, e14⟩
      have fin : ∀ H', Pl p H6 H' → Same H H' := fun H' e => e2.trans (Pl.out e1 hp0 (e3.trans (E6.trans e)))
      have P14 : Pl p H6 H14 := Pl.of (e613.trans e14) hp6
      have hN14 := hN13.same e14
      obtain ⟨ls14, r1, r2⟩ := out_list (m_Lst m_Pair) (P14.list (m_Lst m_Pair) hL6)
      have hls14 := Paired.length r2
      refine ⟨_, rfl, _, rfl, _, _, rfl, .inl (SqL.of r1), p, _, rfl, P14.pool, by omega, by omega, fun H15 one e15 o0 o1 => ?_⟩
      obtain ⟨one, rfl⟩ := Int.eq_ofNat_of_zero_le o0
      have hol : one < L.length := by omega
      have P15 := P14.trans e15
      obtain ⟨es, he⟩ : ∃ es, L[one]? = some es := ⟨_, List.getElem?_eq_getElem hol⟩
      obtain ⟨os1, hos1, hos2, hos3⟩ := hg.at2 he
      obtain ⟨ed, el⟩ := hes es (List.mem_of_getElem? he)
      obtain ⟨ls15, x1', x2⟩ := P15.list (m_Lst m_Pair) hL6
      obtain ⟨hlap, x1⟩ := Del.in_ x1'
      obtain ⟨v1, hv1, a2, rfl, ha2⟩ := Paired.at_ x2 he
      refine ⟨_, rfl, _, rfl, la, _, _, _, rfl, rfl, SqL.of x1, atI_nat hv1, Nat.zero_le _, fun z hz => ?_⟩
      have P16' := Pl.new (o := .lst []) P15.pool hz
      have P16 := P15.trans P16'
      have hz16 : upd H15 z (.lst []) z = some (.lst []) := upd_same
      have ha16 := P16'.list m_Pair ha2
      have x16 := P16'.at_ x1 hlap
      have hN16 := (hN14.pl hp6 P14.pool e15).pl hp6 P15.pool P16'
      generalize upd H15 z (.lst []) = H16 at P16' P16 hz16 ha16 x16 hN16
      refine ⟨_, _, dp_prs (out_list m_Pair ha16), dp_nil hz16, lay_shaped (lay_prs es) (by decide), lay_shaped (k := 1) (lay_list fun _ h => nomatch h) (by decide), _, rfl, ?_⟩
      rw [eqv_prs_nil]
      by_cases hne : es = []
      · refine iteNS hne ?_
        exact ⟨_, _, _, _, _, _, _, _, _, _, _, _, _, _, _, _, _, _, _, _, _, _, _, _, rfl, fin _ P16⟩
      rw [decide_eq_false hne]
      refine iteT ?_
      have hpos : 0 < es.length := List.length_pos_iff.mpr hne
      obtain ⟨ys, y1', y2⟩ := id ha16
      obtain ⟨ha2p, y1⟩ := Del.in_ y1'
      have hyl := Paired.length y2
      refine ⟨_, rfl, _, rfl, _, rfl, la, _, _, _, rfl, rfl, SqL.of x16, atI_nat hv1, _, _, rfl, .inl (SqL.of y1), p, _, rfl, P16.pool, by omega, by omega, fun H17 sp e17 s0 s1 => ?_⟩
      obtain ⟨sp, rfl⟩ := Int.eq_ofNat_of_zero_le s0
      have hsp : sp < es.length := by omega
      have P17 := P16.trans e17
      have hN17 := hN16.pl hp6 P16.pool e17
      have hnew := news_at (ds := ds) (n := n) hg he hos1
      obtain ⟨t', hd', hedge⟩ : ∃ t' hd', es[sp]? = some (t', hd') := ⟨_, _, List.getElem?_eq_getElem hsp⟩
      obtain ⟨x, hx⟩ : ∃ x, os1[sp]? = some x := ⟨_, List.getElem?_eq_getElem (by omega)⟩
      obtain ⟨g1, hg1⟩ : ∃ g1, g1 = ledOf m es os1 (potOf m n ds) := ⟨_, rfl⟩
      rw [← hg1] at hnew
      have hg1l : g1.length = es.length := by rw [hg1]; exact led_len hos2
      obtain ⟨y, hy⟩ : ∃ y, g1[sp]? = some y := ⟨_, List.getElem?_eq_getElem (by omega)⟩
      obtain ⟨xs17, q, m1, m2, m3, m4, m5⟩ := hN17.set hnew
      have hqp := hp6.ne m4
      refine ⟨_, rfl, _, rfl, _, rfl, nw, _, _, _, rfl, rfl, SqL.of m1, atI_nat m2, _, rfl, q, _, _, _, rfl, rfl, SqL.of m3, ints_at2 hy, _, _, rfl, rfl, m, _, rfl, ?_⟩
      refine ⟨_, rfl, _, rfl, nw, _, _, _, rfl, rfl, SqL.of m1, atI_nat m2, _, rfl, q, _, _, sp, rfl, rfl, m3, ixN_nat (by rw [List.length_map]; omega) (by rw [List.length_map]; omega), ?_⟩
      rw [ints_set]
      have hN18 := m5 (g1.set sp (red m (y + 1)))
      have P18 : Pl p H6 (upd H17 q (.lst ((g1.set sp (red m (y + 1))).map V.int))) := Pl.mut P17 m4 hqp
      generalize upd H17 q (.lst ((g1.set sp (red m (y + 1))).map V.int)) = H18 at hN18 P18
      have hz0 : Res m (red m (y + 1)) := red_res m _
      have hG2 := set_ok (sp := sp) (news_ok (n := n) (ds := ds) hg) hnew hz0
      refine ⟨_, rfl, _, rfl, _, rfl, wa, oa, nw, T.eT, n, m, L, gss, newsSet (newsAt m n L gss ds) one sp g1 (red m (y + 1)), rfl, out_list m_Web (P18.list m_Web hWb6), out_list (m_Lst m_Int) (P18.list (m_Lst m_Int) hO6), hN18.list, hg, hG2, hm, l1, l6, hes60, by omega, T.heT, fun H19 r2 ⟨e19, ans2⟩ => ?_⟩
      have P19 := P18.thn e19
      have LO := GainsOk.lens hg (news_ok (n := n) (ds := ds) hg)
      obtain ⟨hr1, hr2⟩ := set_here hg (news_ok (n := n) (ds := ds) hg) hnew hz0 he hos1 hedge hx hy
      have hro : ∀ i, i ≠ place L one sp → _ := fun i hi => set_other hg (news_ok (n := n) (ds := ds) hg) hnew hz0 hi
      have hdd : m ∣ (red m (y + 1) - x) - (y - x) - 1 := by
        have := red_dvd m (y + 1)
        have e : (red m (y + 1) - x) - (y - x) - 1 = red m (y + 1) - (y + 1) := by omega
        rw [e]; exact this
      have hpsA := LO.psAll
      have hlist19 := out_list (m_Lst m_Pair) (P19.list (m_Lst m_Pair) hL6)
      have hmem : ∀ e, e ∈ L.flatten ↔ e ∈ L.flatten.take (place L one sp) ++ L.flatten.drop (place L one sp + 1) ∨ e = (t', hd') := fun e => by
        have hpl := flat_place he hedge
        rw [mem_cut]
        constructor
        · intro h
          obtain ⟨i, hi⟩ := List.getElem?_of_mem h
          by_cases c : i = place L one sp
          · right
            rw [c, hpl] at hi
            exact (Option.some.inj hi).symm
          · exact .inl ⟨i, c, hi⟩
        · rintro (⟨i, _, hi⟩ | rfl)
          · exact List.mem_of_getElem? hi
          · exact List.mem_of_getElem? hpl
      rcases ans2 with ⟨fa2, f', b1, b2, b3, b4, b5⟩ | ⟨wc, W, js, b1, b2, b3, b4, b5⟩
      · refine ⟨r2, _, rfl, SqT.of b1, rfl, _, _, rfl, _, _, rfl, rfl, ?_⟩
        have apart := pot_apart hm hro hr1 hr2 hdd (news_sol (n := n) (ds := ds) hg) b5
        rw [hpsA] at apart
        refine ⟨_, rfl, rfl, _, rfl, _, rfl, _, rfl, _, rfl, n, la, one, sp, L, es, rfl, hlist19, fun es h => ⟨(hes60 es h).2, (hes60 es h).1⟩, l6, h1n, by omega, he, hsp, fun H20 G1 G2 e20 hG1 hG2 => ?_⟩
        have lt := (groups_more hed hmem hG1 hG2).mpr apart
        refine ⟨rfl, _, rfl, iteNS (by rw [decide_eq_true rfl, decide_eq_true (show (G2.length : Int) > (G1.length : Int) by omega)]) ?_⟩
        refine ⟨_, rfl, rfl, _, rfl, ?_⟩
        rw [decide_eq_false (fun z => absurd (V.str.inj z) (by decide +kernel))]
        refine iteF ?_
        refine ⟨_, rfl, rfl, _, rfl, ?_⟩
        rw [decide_eq_false (fun z => absurd (V.str.inj z) (by decide +kernel))]
        refine iteF ?_
        exact ⟨_, _, _, _, _, _, _, _, _, _, _, _, _, _, _, _, _, _, _, _, _, _, _, _, rfl, fin _ (P19.thn e20)⟩
      · refine ⟨r2, _, rfl, SqT.of b1, rfl, _, _, rfl, _, _, rfl, rfl, ?_⟩
        obtain ⟨joined, st, hst, hsk⟩ := cyc_joined hro hr1 hr2 hdd (news_sol (n := n) (ds := ds) hg) b3
        rw [hpsA] at joined
        refine ⟨_, rfl, rfl, _, rfl, _, rfl, _, rfl, _, rfl, n, la, one, sp, L, es, rfl, hlist19, fun es h => ⟨(hes60 es h).2, (hes60 es h).1⟩, l6, h1n, by omega, he, hsp, fun H20 G1 G2 e20 hG1 hG2 => ?_⟩
        have nlt : ¬ G1.length < G2.length := fun z => (groups_more hed hmem hG1 hG2).mp z joined
        refine ⟨rfl, _, rfl, iteNS (by rw [decide_eq_false (fun z => absurd (V.str.inj z) (by decide +kernel)), decide_eq_false (show ¬ (G2.length : Int) > (G1.length : Int) by omega)]) ?_⟩
        refine ⟨_, rfl, rfl, _, rfl, ?_⟩
        rw [decide_eq_false (fun z => absurd (V.str.inj z) (by decide +kernel))]
        refine iteF ?_
        refine ⟨_, rfl, rfl, _, rfl, ?_⟩
        rw [decide_eq_true rfl]
        refine iteT ?_
        refine ⟨_, rfl, _, rfl, (by show 2 ≤ sizeLine; decide), fun t2 ht2 => ?_⟩
        have n21 : Same H20 (upd H20 t2 (.tup [.int one, .int sp])) := Same.new ht2
        have ht21 : upd H20 t2 (.tup [.int one, .int sp]) t2 = some (.tup [.int one, .int sp]) := upd_same
        have hjs := (b2.same m_Row e20).same m_Row n21
        have P21 := (P19.thn e20).thn n21
        generalize upd H20 t2 (.tup [.int one, .int sp]) = H21 at n21 ht21 hjs P21
        obtain ⟨zj, j1, j2⟩ := hjs
        have hzj := Paired.length j2
        have hWj := Paired.length b4
        refine ⟨_, rfl, wc, rfl, ⟨_, SqL.of j1⟩, fun D hD => ?_⟩
        refine lc_list (K := K) (a := wc) (xs := zj) (fun j H22 => Same H21 H22 ∧ ListAt PairR H22 D ((js.take j).map fun (r : Rw) => (r.1, r.2.1))) ⟨Same.new hD, [], upd_same, .nil⟩ (fun j H22 _ ⟨e, _⟩ => SqL.of (e _ _ j1)) ?_ ?_
        · rintro j y3 H22 hj ⟨e22, hD22⟩
          obtain ⟨⟨c1, c2, c3⟩, hjj, t3, rfl, ht3⟩ := Paired.at2 j2 hj
          have hjl := (List.getElem?_eq_some_iff.mp hjj).1
          refine ⟨rfl, ?_⟩
          refine ⟨_, rfl, 2, rfl, t3, _, rfl, SqT.of (e22 _ _ ht3), (by show ¬ (HT.sIx 3 0 none = 0 ∧ HT.sIx 3 3 (some 2) = 3); decide), fun p3 hp3 => ?_⟩
          have n3 : Same H22 (upd H22 p3 (.tup [.int c1, .int c2])) := Same.new hp3
          obtain ⟨zd, z1, z2⟩ := id hD22
          refine ⟨_, n3 _ _ z1, ?_, Same.mut (e22.trans n3) hD, ?_⟩
          · rw [Paired.length z2, List.length_map, List.length_take]; exact szl _ (by omega)
          · rw [take1 hjj, List.map_append]
            exact list_push m_Pair kl_Pair (n3 _ _ z1) (Paired.mono m_Pair n3 z2) (y := (c1, c2)) ⟨p3, rfl, upd_same⟩
        rintro H22 ⟨e22, hD22⟩
        rw [hzj, List.take_length] at hD22
        refine ⟨_, _, .tup (SqT.of (e22 _ _ ht21)) (.cons (.int _) (.cons (.int _) .nil)), dp_prs hD22, lay_shaped (lay_prI (one, sp)) (by decide), lay_shaped (lay_prs _) (by decide), _, rfl, ?_⟩
        have hin : ((js.map fun (r : Rw) => (r.1, r.2.1)).map prI).any (fun z => PyData.eqv z (prI (one, sp))) = true := by
          obtain ⟨i, hi⟩ := List.getElem?_of_mem hst
          obtain ⟨jv, hjv, pp, hpp, hje⟩ := Paired.at2 b4 hi
          rw [hsk, plc_place he hsp] at hpp
          cases hpp
          refine List.any_eq_true.mpr ⟨prI (one, sp), List.mem_map.mpr ⟨(one, sp), List.mem_map.mpr ⟨jv, List.mem_of_getElem? hjv, by rw [hje]⟩, rfl⟩, SeqAt.eqv_refl _ (lay_prI _).1⟩
        show if (!((js.map fun (r : Rw) => (r.1, r.2.1)).map prI).any (fun z => PyData.eqv z (prI (one, sp)))) = true then _ else _
        rw [hin]
        refine iteF ?_
        exact ⟨_, _, _, _, _, _, _, _, _, _, _, _, _, _, _, _, _, _, _, _, _, _, _, _, rfl, fin _ (P21.thn e22)⟩
    · rintro σ H2 ⟨u1, u2, u3, u4, u5, u6, u7, u8, u9, u10, u11, u12, u13, u14, u15, u16, u17, u18, u19, u20, u21, u22, u23, u24, rfl, e2⟩
      exact k H2
end
end Tt
end
section
set_option maxHeartbeats 0
namespace Tt
open PySem PySem.Spec PyProof.Rows L2
theorem tx_of {K : PySem.W.Frag} {hp : Heap} {mg : Str → Option Value} (X : K.In hp) (G : hp.Ns mainGlobals mg) (cx : SaysX K) : Nonempty (Tx K mg) := by
  have c : He.SaysD faL fnL K := congrArg Prod.fst cx
  have c2 : ((emL.all fun p => emptyB K (p K)) && insB K (He.ga K "Web")) = true := congrArg Prod.snd cx
  obtain ⟨c3, c4⟩ := He.ba c2
  have c5 := List.all_eq_true.mp c3
  obtain ⟨fd0, F0⟩ := c.def_ 0 (d := d_reduced_number) rfl
  obtain ⟨fd1, F1⟩ := c.def_ 1 (d := d_forest_of) rfl
  obtain ⟨fd2, F2⟩ := c.def_ 2 (d := d_links_of) rfl
  obtain ⟨fd3, F3⟩ := c.def_ 3 (d := d_walk_paths) rfl
  obtain ⟨fd4, F4⟩ := c.def_ 4 (d := d_components_of) rfl
  obtain ⟨fd5, F5⟩ := c.def_ 5 (d := d_System_init) rfl
  obtain ⟨fd6, F6⟩ := c.def_ 6 (d := d_System_path) rfl
  obtain ⟨fd7, F7⟩ := c.def_ 7 (d := d_System_levels) rfl
  obtain ⟨fd8, F8⟩ := c.def_ 8 (d := d_System_bad_cycle) rfl
  obtain ⟨fd9, F9⟩ := c.def_ 9 (d := d_System_solved) rfl
  obtain ⟨fd10, F10⟩ := c.def_ 10 (d := d_is_integer) rfl
  obtain ⟨fd11, F11⟩ := c.def_ 11 (d := d_is_within) rfl
  obtain ⟨fd12, F12⟩ := c.def_ 12 (d := d_is_edge) rfl
  obtain ⟨fd13, F13⟩ := c.def_ 13 (d := d_is_modulus) rfl
  obtain ⟨fd14, F14⟩ := c.def_ 14 (d := d_check_edges) rfl
  obtain ⟨fd15, F15⟩ := c.def_ 15 (d := d_Web_init) rfl
  obtain ⟨fd16, F16⟩ := c.def_ 16 (d := d_Web_size) rfl
  obtain ⟨fd17, F17⟩ := c.def_ 17 (d := d_Web_modulus) rfl
  obtain ⟨fd18, F18⟩ := c.def_ 18 (d := d_Web_edges) rfl
  obtain ⟨fd19, F19⟩ := c.def_ 19 (d := d_Web_len) rfl
  obtain ⟨fd20, F20⟩ := c.def_ 20 (d := d_check_node) rfl
  obtain ⟨fd21, F21⟩ := c.def_ 21 (d := d_residue) rfl
  obtain ⟨fd22, F22⟩ := c.def_ 22 (d := d_is_residue) rfl
  obtain ⟨fd23, F23⟩ := c.def_ 23 (d := d_are_residues) rfl
  obtain ⟨fd24, F24⟩ := c.def_ 24 (d := d_is_gains) rfl
  obtain ⟨fd25, F25⟩ := c.def_ 25 (d := d_is_potential) rfl
  obtain ⟨fd26, F26⟩ := c.def_ 26 (d := d_check_gains) rfl
  obtain ⟨fd27, F27⟩ := c.def_ 27 (d := d_check_potential) rfl
  obtain ⟨fd28, F28⟩ := c.def_ 28 (d := d_check_fixed) rfl
  obtain ⟨fd29, F29⟩ := c.def_ 29 (d := d_switched) rfl
  obtain ⟨fd30, F30⟩ := c.def_ 30 (d := d_switch) rfl
  obtain ⟨fd31, F31⟩ := c.def_ 31 (d := d_is_switch) rfl
  obtain ⟨fd32, F32⟩ := c.def_ 32 (d := d_potential_of) rfl
  obtain ⟨fd33, F33⟩ := c.def_ 33 (d := d_check_webs) rfl
  obtain ⟨fd34, F34⟩ := c.def_ 34 (d := d_check_all_gains) rfl
  obtain ⟨fd35, F35⟩ := c.def_ 35 (d := d_transform_all) rfl
  obtain ⟨fd36, F36⟩ := c.def_ 36 (d := d_law_pool) rfl
  obtain ⟨fd37, F37⟩ := c.def_ 37 (d := d_law_take) rfl
  obtain ⟨fd38, F38⟩ := c.def_ 38 (d := d_law_mod) rfl
  obtain ⟨fd39, F39⟩ := c.def_ 39 (d := d_law_residue) rfl
  obtain ⟨fd40, F40⟩ := c.def_ 40 (d := d_law_base) rfl
  obtain ⟨fd41, F41⟩ := c.def_ 41 (d := d_law_pairs) rfl
  obtain ⟨fd42, F42⟩ := c.def_ 42 (d := d_law_led) rfl
  obtain ⟨fd43, F43⟩ := c.def_ 43 (d := d_law_goal) rfl
  obtain ⟨fd44, F44⟩ := c.def_ 44 (d := d_law_groups) rfl
  obtain ⟨fd45, F45⟩ := c.def_ 45 (d := d_law_many_webs) rfl
  obtain ⟨fd46, F46⟩ := c.def_ 46 (d := d_law_flat) rfl
  obtain ⟨fd47, F47⟩ := c.def_ 47 (d := d_law_joint) rfl
  obtain ⟨fd48, F48⟩ := c.def_ 48 (d := d_law_is_bridge) rfl
  obtain ⟨fd49, F49⟩ := c.def_ 49 (d := d_law) rfl
  obtain ⟨t_MOST_NODES, h_MOST_NODES⟩ := He.int_ok X G (c.fact 81 (f := .int "MOST_NODES" 30) rfl)
  obtain ⟨t_MOST_EDGES, h_MOST_EDGES⟩ := He.int_ok X G (c.fact 82 (f := .int "MOST_EDGES" 60) rfl)
  obtain ⟨t_MOST_MODULUS, h_MOST_MODULUS⟩ := He.int_ok X G (c.fact 83 (f := .int "MOST_MODULUS" 60) rfl)
  obtain ⟨t_MOST_WEBS, h_MOST_WEBS⟩ := He.int_ok X G (c.fact 84 (f := .int "MOST_WEBS" 6) rfl)
  exact ⟨{
    Web := He.ga K "Web",
    System := He.ga K "System",
    g_Web := He.glo_ok X G (c.fact 40 (f := .glo "Web") rfl),
    cl_Web := He.cls_ok (c.fact 41 (f := .cls "Web") rfl),
    g_System := He.glo_ok X G (c.fact 48 (f := .glo "System") rfl),
    cl_System := He.cls_ok (c.fact 49 (f := .cls "System") rfl),
    ic_Web := insB_ok (He.cls_ok (c.fact 41 (f := .cls "Web") rfl)) c4,
    eW := He.dflAt ("Web", some "__init__") 0 K,
    eT := kwAt ("transform_all", none) "fixed" K,
    heW := emptyB_ok (c5 _ List.mem_cons_self),
    heT := emptyB_ok (c5 _ (List.mem_cons_of_mem _ List.mem_cons_self)),
    na_Web_own_size := He.noat_ok (c.fact 43 (f := .noat "Web" "own_size") rfl),
    na_Web_own_edges := He.noat_ok (c.fact 44 (f := .noat "Web" "own_edges") rfl),
    na_Web_own_modulus := He.noat_ok (c.fact 45 (f := .noat "Web" "own_modulus") rfl),
    na_Web_own_forest := He.noat_ok (c.fact 46 (f := .noat "Web" "own_forest") rfl),
    na_Web_links := He.noat_ok (c.fact 47 (f := .noat "Web" "links") rfl),
    na_System_own_modulus := He.noat_ok (c.fact 51 (f := .noat "System" "own_modulus") rfl),
    na_System_rows := He.noat_ok (c.fact 52 (f := .noat "System" "rows") rfl),
    na_System_links := He.noat_ok (c.fact 53 (f := .noat "System" "links") rfl),
    na_System_groups := He.noat_ok (c.fact 54 (f := .noat "System" "groups") rfl),
    n_len := He.free_ok X G (c.fact 65 (f := .free "len") rfl),
    n_range := He.free_ok X G (c.fact 66 (f := .free "range") rfl),
    n_zip := He.free_ok X G (c.fact 67 (f := .free "zip") rfl),
    n_enumerate := He.free_ok X G (c.fact 68 (f := .free "enumerate") rfl),
    n_isinstance := He.free_ok X G (c.fact 69 (f := .free "isinstance") rfl),
    n_list := He.free_ok X G (c.fact 70 (f := .free "list") rfl),
    n_tuple := He.free_ok X G (c.fact 71 (f := .free "tuple") rfl),
    n_int := He.free_ok X G (c.fact 72 (f := .free "int") rfl),
    n_bool := He.free_ok X G (c.fact 73 (f := .free "bool") rfl),
    n_set := He.free_ok X G (c.fact 74 (f := .free "set") rfl),
    n_sorted := He.free_ok X G (c.fact 75 (f := .free "sorted") rfl),
    n_sum := He.free_ok X G (c.fact 76 (f := .free "sum") rfl),
    n_all := He.free_ok X G (c.fact 77 (f := .free "all") rfl),
    n_abs := He.free_ok X G (c.fact 78 (f := .free "abs") rfl),
    n_min := He.free_ok X G (c.fact 79 (f := .free "min") rfl),
    n_max := He.free_ok X G (c.fact 80 (f := .free "max") rfl),
    t_MOST_NODES := t_MOST_NODES,
    g_MOST_NODES := h_MOST_NODES,
    t_MOST_EDGES := t_MOST_EDGES,
    g_MOST_EDGES := h_MOST_EDGES,
    t_MOST_MODULUS := t_MOST_MODULUS,
    g_MOST_MODULUS := h_MOST_MODULUS,
    t_MOST_WEBS := t_MOST_WEBS,
    g_MOST_WEBS := h_MOST_WEBS,
    reduced_number := ⟨_, fd0, F0, F0.bindsN fun _ _ _ _ _ _ us hl => match us, hl with | [_, _], _ => rfl, He.glo_ok X G (c.fact 0 (f := .glo "reduced_number") rfl)⟩,
    forest_of := ⟨_, fd1, F1, F1.bindsN fun _ _ _ _ _ _ us hl => match us, hl with | [_, _], _ => rfl, He.glo_ok X G (c.fact 1 (f := .glo "forest_of") rfl)⟩,
    links_of := ⟨_, fd2, F2, F2.bindsN fun _ _ _ _ _ _ us hl => match us, hl with | [_, _, _], _ => rfl, He.glo_ok X G (c.fact 2 (f := .glo "links_of") rfl)⟩,
    walk_paths := ⟨_, fd3, F3, F3.bindsN fun _ _ _ _ _ _ us hl => match us, hl with | [_, _], _ => rfl, He.glo_ok X G (c.fact 3 (f := .glo "walk_paths") rfl)⟩,
    components_of := ⟨_, fd4, F4, F4.bindsN fun _ _ _ _ _ _ us hl => match us, hl with | [_], _ => rfl, He.glo_ok X G (c.fact 4 (f := .glo "components_of") rfl)⟩,
    System_init := ⟨_, fd5, F5, F5.bindsN fun _ _ _ _ _ _ us hl => match us, hl with | [_, _, _, _], _ => rfl, He.meth_ok (c.fact 55 (f := .meth "System" "__init__") rfl)⟩,
    System_path := ⟨_, fd6, F6, F6.bindsN fun _ _ _ _ _ _ us hl => match us, hl with | [_, _, _], _ => rfl, He.meth_ok (c.fact 56 (f := .meth "System" "path") rfl)⟩,
    System_levels := ⟨_, fd7, F7, F7.bindsN fun _ _ _ _ _ _ us hl => match us, hl with | [_], _ => rfl, He.meth_ok (c.fact 57 (f := .meth "System" "levels") rfl)⟩,
    System_bad_cycle := ⟨_, fd8, F8, F8.bindsN fun _ _ _ _ _ _ us hl => match us, hl with | [_], _ => rfl, He.meth_ok (c.fact 58 (f := .meth "System" "bad_cycle") rfl)⟩,
    System_solved := ⟨_, fd9, F9, F9.bindsN fun _ _ _ _ _ _ us hl => match us, hl with | [_, _], _ => rfl, He.meth_ok (c.fact 59 (f := .meth "System" "solved") rfl)⟩,
    is_integer := ⟨_, fd10, F10, F10.bindsN fun _ _ _ _ _ _ us hl => match us, hl with | [_], _ => rfl, He.glo_ok X G (c.fact 5 (f := .glo "is_integer") rfl)⟩,
    is_within := ⟨_, fd11, F11, F11.bindsN fun _ _ _ _ _ _ us hl => match us, hl with | [_, _, _], _ => rfl, He.glo_ok X G (c.fact 6 (f := .glo "is_within") rfl)⟩,
    is_edge := ⟨_, fd12, F12, F12.bindsN fun _ _ _ _ _ _ us hl => match us, hl with | [_, _], _ => rfl, He.glo_ok X G (c.fact 7 (f := .glo "is_edge") rfl)⟩,
    is_modulus := ⟨_, fd13, F13, F13.bindsN fun _ _ _ _ _ _ us hl => match us, hl with | [_], _ => rfl, He.glo_ok X G (c.fact 8 (f := .glo "is_modulus") rfl)⟩,
    check_edges := ⟨_, fd14, F14, F14.bindsN fun _ _ _ _ _ _ us hl => match us, hl with | [_, _], _ => rfl, He.glo_ok X G (c.fact 9 (f := .glo "check_edges") rfl)⟩,
    Web_init_f := _,
    Web_init_fd := fd15,
    Web_init_F := F15,
    Web_size := ⟨_, fd16, F16, F16.bindsN fun _ _ _ _ _ _ us hl => match us, hl with | [_], _ => rfl, He.meth_ok (c.fact 61 (f := .meth "Web" "size") rfl)⟩,
    Web_modulus := ⟨_, fd17, F17, F17.bindsN fun _ _ _ _ _ _ us hl => match us, hl with | [_], _ => rfl, He.meth_ok (c.fact 62 (f := .meth "Web" "modulus") rfl)⟩,
    Web_edges := ⟨_, fd18, F18, F18.bindsN fun _ _ _ _ _ _ us hl => match us, hl with | [_], _ => rfl, He.meth_ok (c.fact 63 (f := .meth "Web" "edges") rfl)⟩,
    Web_len := ⟨_, fd19, F19, F19.bindsN fun _ _ _ _ _ _ us hl => match us, hl with | [_], _ => rfl, He.meth_ok (c.fact 64 (f := .meth "Web" "__len__") rfl)⟩,
    check_node := ⟨_, fd20, F20, F20.bindsN fun _ _ _ _ _ _ us hl => match us, hl with | [_, _], _ => rfl, He.glo_ok X G (c.fact 10 (f := .glo "check_node") rfl)⟩,
    residue := ⟨_, fd21, F21, F21.bindsN fun _ _ _ _ _ _ us hl => match us, hl with | [_, _], _ => rfl, He.glo_ok X G (c.fact 11 (f := .glo "residue") rfl)⟩,
    is_residue := ⟨_, fd22, F22, F22.bindsN fun _ _ _ _ _ _ us hl => match us, hl with | [_, _], _ => rfl, He.glo_ok X G (c.fact 12 (f := .glo "is_residue") rfl)⟩,
    are_residues := ⟨_, fd23, F23, F23.bindsN fun _ _ _ _ _ _ us hl => match us, hl with | [_, _, _], _ => rfl, He.glo_ok X G (c.fact 13 (f := .glo "are_residues") rfl)⟩,
    is_gains := ⟨_, fd24, F24, F24.bindsN fun _ _ _ _ _ _ us hl => match us, hl with | [_, _], _ => rfl, He.glo_ok X G (c.fact 14 (f := .glo "is_gains") rfl)⟩,
    is_potential := ⟨_, fd25, F25, F25.bindsN fun _ _ _ _ _ _ us hl => match us, hl with | [_, _], _ => rfl, He.glo_ok X G (c.fact 15 (f := .glo "is_potential") rfl)⟩,
    check_gains := ⟨_, fd26, F26, F26.bindsN fun _ _ _ _ _ _ us hl => match us, hl with | [_, _], _ => rfl, He.glo_ok X G (c.fact 16 (f := .glo "check_gains") rfl)⟩,
    check_potential := ⟨_, fd27, F27, F27.bindsN fun _ _ _ _ _ _ us hl => match us, hl with | [_, _], _ => rfl, He.glo_ok X G (c.fact 17 (f := .glo "check_potential") rfl)⟩,
    check_fixed := ⟨_, fd28, F28, F28.bindsN fun _ _ _ _ _ _ us hl => match us, hl with | [_, _], _ => rfl, He.glo_ok X G (c.fact 18 (f := .glo "check_fixed") rfl)⟩,
    switched := ⟨_, fd29, F29, F29.bindsN fun _ _ _ _ _ _ us hl => match us, hl with | [_, _, _], _ => rfl, He.glo_ok X G (c.fact 19 (f := .glo "switched") rfl)⟩,
    switch := ⟨_, fd30, F30, F30.bindsN fun _ _ _ _ _ _ us hl => match us, hl with | [_, _, _, _], _ => rfl, He.glo_ok X G (c.fact 20 (f := .glo "switch") rfl)⟩,
    is_switch := ⟨_, fd31, F31, F31.bindsN fun _ _ _ _ _ _ us hl => match us, hl with | [_, _], _ => rfl, He.glo_ok X G (c.fact 21 (f := .glo "is_switch") rfl)⟩,
    potential_of := ⟨_, fd32, F32, F32.bindsN fun _ _ _ _ _ _ us hl => match us, hl with | [_, _], _ => rfl, He.glo_ok X G (c.fact 22 (f := .glo "potential_of") rfl)⟩,
    check_webs := ⟨_, fd33, F33, F33.bindsN fun _ _ _ _ _ _ us hl => match us, hl with | [_], _ => rfl, He.glo_ok X G (c.fact 23 (f := .glo "check_webs") rfl)⟩,
    check_all_gains := ⟨_, fd34, F34, F34.bindsN fun _ _ _ _ _ _ us hl => match us, hl with | [_, _], _ => rfl, He.glo_ok X G (c.fact 24 (f := .glo "check_all_gains") rfl)⟩,
    transform_all_f := _,
    transform_all_fd := fd35,
    transform_all_F := F35,
    transform_all_m := He.glo_ok X G (c.fact 25 (f := .glo "transform_all") rfl),
    law_pool := ⟨_, fd36, F36, F36.bindsN fun _ _ _ _ _ _ us hl => match us, hl with | [_, _], _ => rfl, He.glo_ok X G (c.fact 26 (f := .glo "_law_pool") rfl)⟩,
    law_take := ⟨_, fd37, F37, F37.bindsN fun _ _ _ _ _ _ us hl => match us, hl with | [_, _], _ => rfl, He.glo_ok X G (c.fact 27 (f := .glo "_law_take") rfl)⟩,
    law_mod := ⟨_, fd38, F38, F38.bindsN fun _ _ _ _ _ _ us hl => match us, hl with | [_, _], _ => rfl, He.glo_ok X G (c.fact 28 (f := .glo "_law_mod") rfl)⟩,
    law_residue := ⟨_, fd39, F39, F39.bindsN fun _ _ _ _ _ _ us hl => match us, hl with | [_, _], _ => rfl, He.glo_ok X G (c.fact 29 (f := .glo "_law_residue") rfl)⟩,
    law_base := ⟨_, fd40, F40, F40.bindsN fun _ _ _ _ _ _ us hl => match us, hl with | [_], _ => rfl, He.glo_ok X G (c.fact 30 (f := .glo "_law_base") rfl)⟩,
    law_pairs := ⟨_, fd41, F41, F41.bindsN fun _ _ _ _ _ _ us hl => match us, hl with | [_, _, _], _ => rfl, He.glo_ok X G (c.fact 31 (f := .glo "_law_pairs") rfl)⟩,
    law_led := ⟨_, fd42, F42, F42.bindsN fun _ _ _ _ _ _ us hl => match us, hl with | [_, _, _, _], _ => rfl, He.glo_ok X G (c.fact 32 (f := .glo "_law_led") rfl)⟩,
    law_goal := ⟨_, fd43, F43, F43.bindsN fun _ _ _ _ _ _ us hl => match us, hl with | [_, _, _, _, _], _ => rfl, He.glo_ok X G (c.fact 33 (f := .glo "_law_goal") rfl)⟩,
    law_groups := ⟨_, fd44, F44, F44.bindsN fun _ _ _ _ _ _ us hl => match us, hl with | [_, _], _ => rfl, He.glo_ok X G (c.fact 34 (f := .glo "_law_groups") rfl)⟩,
    law_many_webs := ⟨_, fd45, F45, F45.bindsN fun _ _ _ _ _ _ us hl => match us, hl with | [_, _, _], _ => rfl, He.glo_ok X G (c.fact 35 (f := .glo "_law_many_webs") rfl)⟩,
    law_flat := ⟨_, fd46, F46, F46.bindsN fun _ _ _ _ _ _ us hl => match us, hl with | [_], _ => rfl, He.glo_ok X G (c.fact 36 (f := .glo "_law_flat") rfl)⟩,
    law_joint := ⟨_, fd47, F47, F47.bindsN fun _ _ _ _ _ _ us hl => match us, hl with | [_], _ => rfl, He.glo_ok X G (c.fact 37 (f := .glo "_law_joint") rfl)⟩,
    law_is_bridge := ⟨_, fd48, F48, F48.bindsN fun _ _ _ _ _ _ us hl => match us, hl with | [_, _, _, _], _ => rfl, He.glo_ok X G (c.fact 38 (f := .glo "_law_is_bridge") rfl)⟩,
    law := ⟨_, fd49, F49, F49.bindsN fun _ _ _ _ _ _ us hl => match us, hl with | [_], _ => rfl, He.glo_ok X G (c.fact 39 (f := .glo "law") rfl)⟩,
    mk_System := He.mkr_ok (c.fact 50 (f := .mkr "System") rfl),
    mk_Web := He.mkr_ok (c.fact 42 (f := .mkr "Web") rfl) }⟩
theorem facts_law {P : Program} {w : World} {K : PySem.W.Frag} {hp : Heap} {mg : Str → Option Value} {f : Addr} (X : K.In hp) (G : hp.Ns mainGlobals mg) (hfa : mg ("law" : Str) = some (.ref f)) (c : SaysX K) :
    ∃ fd : FuncData, (∀ (s : Shared) (v : Value), BindsTo s fd ⟨[v], []⟩ [("_law_script", v)]) ∧ ∀ base : Heap, K.In base → base.Ns mainGlobals mg → FnOk P w K mg base CX0 9 f fd ["_law_script"] (sp_law K) := by
  obtain ⟨T⟩ := tx_of X G c
  have e := hfa.symm.trans T.law.m
  have e : f = T.law.f := by
    have z := Option.some.inj e
    cases z
    rfl
  subst e
  have b := FunD.bindsA (ps := ["_law_script"]) T.law.F fun _ _ _ _ _ _ us hl => match us, hl with | [_], _ => rfl
  exact ⟨T.law.fd, fun s v => b s [v] rfl, fun base _ _ => ok_law T⟩
end Tt
open PySem PySem.W PySem.Calls PyProof.Rows
set_option maxHeartbeats 0 in
theorem PySem.Challenge.cw_turnedties_k55_whole_one_potential_for_a_holds : PySem.Challenge.rw_turnedties_k55_whole_one_potential_for_a.Holds := by
  w_on; o_law
  refine HandSHeadRun.head_any (r := Tt.RowX) (q := view Tt.RowX.prog [67]) (H := Tt.hookX) (ob := Tt.obX) (M := 6000) (loose := Tt.looseL) (d := HandSHeadRun.topDef Tt.RowX.prog 67) (kwd := []) Tt.obX_eq
    (by kernel_rfl) (fun s => by kernel_rfl) Tt.runX (by kernel_rfl) (by kernel_rfl) (by kernel_rfl) (by rfl) (by first | assumption | decide +kernel) (by decide +kernel) ⟨rfl, rfl, rfl, rfl, rfl, by decide +kernel⟩ ?hw ?hc
  case hw => w_witness2
  case hc =>
    refine L2.walk_ofE (l := PySem.Challenge.rw_turnedties_k55_whole_one_potential_for_a) (n := 63) (k := 9) (x := "_law_script") (CX := L2.CX0) rfl (by decide) (by kernel_rfl) ⟨rfl, by decide, by decide⟩ ?F (fun _ _ _ _ z => z)
    intro w mg fa h Y G hmg0
    obtain ⟨K, KX, c⟩ := Y
    have hmg : mg ("law" : PySem.Str) = some (.ref fa) := by
      have e : (HandSHeadRun.topDef Tt.RowX.prog 67).name = ("law" : PySem.Str) := by kernel_rfl
      rw [← e]
      exact hmg0
    obtain ⟨fd, hb, hF⟩ := Tt.facts_law (P := (PySem.Challenge.rw_turnedties_k55_whole_one_potential_for_a).prog) (w := w) KX G hmg c
    exact ⟨K, fd, Tt.sp_law K, KX, hb, fun H a ns hl _ hS => ⟨a, ns, rfl, hS, fun _ => rfl⟩, hF⟩
end
