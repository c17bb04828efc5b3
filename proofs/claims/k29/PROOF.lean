import PyProof.Rows.All
import Wide.All
import OpenK.AllK
import Wide.FinOn
import KE.KStateDown
import KE.KMinKey
import Lean
import HandS.ForMost
import HandS.More
import HandS.Conv
import HandS.Defaults
import HandS.MakeKw
import HandS.Walk
import HandS.Strs
import PyProof.CallFns
import HandS.Zip
import HandS.MakeKwOnly
import HandS.IsInst
import HandS.DictComp
import HandS.SortKw
import HandS.Wide
import HandS.Codes
import HandS.Lambda
import HandS.Nested
import HandS.RaiseMore
import HandS.Head0
import HandS.Head1
import HandS.Head2
import HandS.HeadEnd
import HandS.HeadHook1
import HandS.HeadHook2
import HandS.HeadHook3
import HandS.HeadHook4
import HandS.HeadWalk
import HandS.EndTab
import PySem.Challenge.RW_turnedties_k29_whole_when_costs_are_lowe
set_option Elab.async false
set_option linter.all false
set_option maxRecDepth 100000
set_option maxHeartbeats 0
namespace K29
open PySem PySem.Spec PyProof.Rows L2
/-! ### the text by places -/
def top (i : Nat) : Stmt := PySem.Challenge.pw_turnedties_k29_whole_when_costs_are_lowe.main.body.getD i (.Pass ⟨0, 0, 0, 0⟩)
abbrev swall : Stmt := top 0
abbrev Nwall : List Str := ["k"]
theorem scwall : FnScope Nwall ["k"] (defScope swall) := ⟨rfl, rfl, rfl, by decide +kernel, rfl, by decide +kernel, by decide +kernel⟩
abbrev sInvalidModulus_init : Stmt := inClass (top 3) 0
abbrev NInvalidModulus_init : List Str := ["self", "value"]
theorem scInvalidModulus_init : FnScope NInvalidModulus_init ["self", "value"] (defScope sInvalidModulus_init) := ⟨rfl, rfl, rfl, by decide +kernel, rfl, by decide +kernel, by decide +kernel⟩
abbrev sInvalidSize_init : Stmt := inClass (top 4) 0
abbrev NInvalidSize_init : List Str := ["self", "value"]
theorem scInvalidSize_init : FnScope NInvalidSize_init ["self", "value"] (defScope sInvalidSize_init) := ⟨rfl, rfl, rfl, by decide +kernel, rfl, by decide +kernel, by decide +kernel⟩
abbrev sInvalidEdge_init : Stmt := inClass (top 5) 0
abbrev NInvalidEdge_init : List Str := ["self", "value"]
theorem scInvalidEdge_init : FnScope NInvalidEdge_init ["self", "value"] (defScope sInvalidEdge_init) := ⟨rfl, rfl, rfl, by decide +kernel, rfl, by decide +kernel, by decide +kernel⟩
abbrev sInvalidNode_init : Stmt := inClass (top 6) 0
abbrev NInvalidNode_init : List Str := ["self", "value"]
theorem scInvalidNode_init : FnScope NInvalidNode_init ["self", "value"] (defScope sInvalidNode_init) := ⟨rfl, rfl, rfl, by decide +kernel, rfl, by decide +kernel, by decide +kernel⟩
abbrev sInvalidAmount_init : Stmt := inClass (top 7) 0
abbrev NInvalidAmount_init : List Str := ["self", "value"]
theorem scInvalidAmount_init : FnScope NInvalidAmount_init ["self", "value"] (defScope sInvalidAmount_init) := ⟨rfl, rfl, rfl, by decide +kernel, rfl, by decide +kernel, by decide +kernel⟩
abbrev sInvalidGains_init : Stmt := inClass (top 8) 0
abbrev NInvalidGains_init : List Str := ["self", "value"]
theorem scInvalidGains_init : FnScope NInvalidGains_init ["self", "value"] (defScope sInvalidGains_init) := ⟨rfl, rfl, rfl, by decide +kernel, rfl, by decide +kernel, by decide +kernel⟩
abbrev sInvalidPotential_init : Stmt := inClass (top 9) 0
abbrev NInvalidPotential_init : List Str := ["self", "value"]
theorem scInvalidPotential_init : FnScope NInvalidPotential_init ["self", "value"] (defScope sInvalidPotential_init) := ⟨rfl, rfl, rfl, by decide +kernel, rfl, by decide +kernel, by decide +kernel⟩
abbrev sInvalidFixed_init : Stmt := inClass (top 10) 0
abbrev NInvalidFixed_init : List Str := ["self", "value"]
theorem scInvalidFixed_init : FnScope NInvalidFixed_init ["self", "value"] (defScope sInvalidFixed_init) := ⟨rfl, rfl, rfl, by decide +kernel, rfl, by decide +kernel, by decide +kernel⟩
abbrev sInvalidWeights_init : Stmt := inClass (top 11) 0
abbrev NInvalidWeights_init : List Str := ["self", "value"]
theorem scInvalidWeights_init : FnScope NInvalidWeights_init ["self", "value"] (defScope sInvalidWeights_init) := ⟨rfl, rfl, rfl, by decide +kernel, rfl, by decide +kernel, by decide +kernel⟩
abbrev sNoEdge_init : Stmt := inClass (top 12) 0
abbrev NNoEdge_init : List Str := ["self", "value"]
theorem scNoEdge_init : FnScope NNoEdge_init ["self", "value"] (defScope sNoEdge_init) := ⟨rfl, rfl, rfl, by decide +kernel, rfl, by decide +kernel, by decide +kernel⟩
abbrev sTooMany_init : Stmt := inClass (top 13) 0
abbrev NTooMany_init : List Str := ["self", "value"]
theorem scTooMany_init : FnScope NTooMany_init ["self", "value"] (defScope sTooMany_init) := ⟨rfl, rfl, rfl, by decide +kernel, rfl, by decide +kernel, by decide +kernel⟩
abbrev sreduced_number : Stmt := top 15
abbrev Nreduced_number : List Str := ["number", "modulus"]
theorem screduced_number : FnScope Nreduced_number ["number", "modulus"] (defScope sreduced_number) := ⟨rfl, rfl, rfl, by decide +kernel, rfl, by decide +kernel, by decide +kernel⟩
abbrev sforest_of : Stmt := top 16
abbrev Nforest_of : List Str := ["size", "pairs", "groups", "found", "index", "tail", "head", "group"]
theorem scforest_of : FnScope Nforest_of ["size", "pairs"] (defScope sforest_of) := ⟨rfl, rfl, rfl, by decide +kernel, rfl, by decide +kernel, by decide +kernel⟩
abbrev slinks_of : Stmt := top 17
abbrev Nlinks_of : List Str := ["size", "pairs", "forest", "found", "index", "tail", "head", "node"]
theorem sclinks_of : FnScope Nlinks_of ["size", "pairs", "forest"] (defScope slinks_of) := ⟨rfl, rfl, rfl, by decide +kernel, rfl, by decide +kernel, by decide +kernel⟩
abbrev swalk_paths : Stmt := top 18
abbrev Nwalk_paths : List Str := ["links", "start", "paths", "level", "later", "node", "index", "way", "other"]
theorem scwalk_paths : FnScope Nwalk_paths ["links", "start"] (defScope swalk_paths) := ⟨rfl, rfl, rfl, by decide +kernel, rfl, by decide +kernel, by decide +kernel⟩
abbrev scomponents_of : Stmt := top 19
abbrev Ncomponents_of : List Str := ["links", "found", "seen", "node", "component", "other"]
theorem sccomponents_of : FnScope Ncomponents_of ["links"] (defScope scomponents_of) := ⟨rfl, rfl, rfl, by decide +kernel, rfl, by decide +kernel, by decide +kernel⟩
abbrev sSystem_init : Stmt := inClass (top 20) 0
abbrev NSystem_init : List Str := ["self", "size", "modulus", "rows", "pairs", "tail", "head", "difference"]
theorem scSystem_init : FnScope NSystem_init ["self", "size", "modulus", "rows"] (defScope sSystem_init) := ⟨rfl, rfl, rfl, by decide +kernel, rfl, by decide +kernel, by decide +kernel⟩
abbrev sSystem_path : Stmt := inClass (top 20) 1
abbrev NSystem_path : List Str := ["self", "start", "finish"]
theorem scSystem_path : FnScope NSystem_path ["self", "start", "finish"] (defScope sSystem_path) := ⟨rfl, rfl, rfl, by decide +kernel, rfl, by decide +kernel, by decide +kernel⟩
abbrev sSystem_levels : Stmt := inClass (top 20) 2
abbrev NSystem_levels : List Str := ["self", "node", "found", "group", "path", "total", "index", "way"]
theorem scSystem_levels : FnScope NSystem_levels ["self"] (defScope sSystem_levels) := ⟨rfl, rfl, rfl, by decide +kernel, rfl, by decide +kernel, by decide +kernel⟩
abbrev sSystem_bad_cycle : Stmt := inClass (top 20) 3
abbrev NSystem_bad_cycle : List Str := ["self", "found", "index", "tail", "head", "difference"]
theorem scSystem_bad_cycle : FnScope NSystem_bad_cycle ["self"] (defScope sSystem_bad_cycle) := ⟨rfl, rfl, rfl, by decide +kernel, rfl, by decide +kernel, by decide +kernel⟩
abbrev sSystem_solved : Stmt := inClass (top 20) 4
abbrev NSystem_solved : List Str := ["self", "fixed", "walk", "found", "group", "node", "held", "constant"]
theorem scSystem_solved : FnScope NSystem_solved ["self", "fixed"] (defScope sSystem_solved) := ⟨rfl, rfl, rfl, by decide +kernel, rfl, by decide +kernel, by decide +kernel⟩
abbrev sSystem_free_groups : Stmt := inClass (top 20) 5
abbrev NSystem_free_groups : List Str := ["self", "fixed", "group", "node"]
theorem scSystem_free_groups : FnScope NSystem_free_groups ["self", "fixed"] (defScope sSystem_free_groups) := ⟨rfl, rfl, rfl, by decide +kernel, rfl, by decide +kernel, by decide +kernel⟩
abbrev sis_integer : Stmt := top 25
abbrev Nis_integer : List Str := ["thing"]
theorem scis_integer : FnScope Nis_integer ["thing"] (defScope sis_integer) := ⟨rfl, rfl, rfl, by decide +kernel, rfl, by decide +kernel, by decide +kernel⟩
abbrev sis_within : Stmt := top 26
abbrev Nis_within : List Str := ["thing", "least", "most"]
theorem scis_within : FnScope Nis_within ["thing", "least", "most"] (defScope sis_within) := ⟨rfl, rfl, rfl, by decide +kernel, rfl, by decide +kernel, by decide +kernel⟩
abbrev sis_edge : Stmt := top 27
abbrev Nis_edge : List Str := ["thing", "size"]
theorem scis_edge : FnScope Nis_edge ["thing", "size"] (defScope sis_edge) := ⟨rfl, rfl, rfl, by decide +kernel, rfl, by decide +kernel, by decide +kernel⟩
abbrev sis_modulus : Stmt := top 28
abbrev Nis_modulus : List Str := ["thing"]
theorem scis_modulus : FnScope Nis_modulus ["thing"] (defScope sis_modulus) := ⟨rfl, rfl, rfl, by decide +kernel, rfl, by decide +kernel, by decide +kernel⟩
abbrev scheck_edges : Stmt := top 29
abbrev Ncheck_edges : List Str := ["size", "edges", "edge"]
theorem sccheck_edges : FnScope Ncheck_edges ["size", "edges"] (defScope scheck_edges) := ⟨rfl, rfl, rfl, by decide +kernel, rfl, by decide +kernel, by decide +kernel⟩
abbrev sWeb_init : Stmt := inClass (top 30) 0
abbrev NWeb_init : List Str := ["self", "size", "edges", "modulus"]
theorem scWeb_init : FnScope NWeb_init ["self", "size", "edges", "modulus"] (defScope sWeb_init) := ⟨rfl, rfl, rfl, by decide +kernel, rfl, by decide +kernel, by decide +kernel⟩
abbrev sWeb_size : Stmt := inClass (top 30) 1
abbrev NWeb_size : List Str := ["self"]
theorem scWeb_size : FnScope NWeb_size ["self"] (defScope sWeb_size) := ⟨rfl, rfl, rfl, by decide +kernel, rfl, by decide +kernel, by decide +kernel⟩
abbrev sWeb_modulus : Stmt := inClass (top 30) 2
abbrev NWeb_modulus : List Str := ["self"]
theorem scWeb_modulus : FnScope NWeb_modulus ["self"] (defScope sWeb_modulus) := ⟨rfl, rfl, rfl, by decide +kernel, rfl, by decide +kernel, by decide +kernel⟩
abbrev sWeb_edges : Stmt := inClass (top 30) 3
abbrev NWeb_edges : List Str := ["self"]
theorem scWeb_edges : FnScope NWeb_edges ["self"] (defScope sWeb_edges) := ⟨rfl, rfl, rfl, by decide +kernel, rfl, by decide +kernel, by decide +kernel⟩
abbrev sWeb_edge : Stmt := inClass (top 30) 4
abbrev NWeb_edge : List Str := ["self", "number"]
theorem scWeb_edge : FnScope NWeb_edge ["self", "number"] (defScope sWeb_edge) := ⟨rfl, rfl, rfl, by decide +kernel, rfl, by decide +kernel, by decide +kernel⟩
abbrev sWeb_components : Stmt := inClass (top 30) 5
abbrev NWeb_components : List Str := ["self"]
theorem scWeb_components : FnScope NWeb_components ["self"] (defScope sWeb_components) := ⟨rfl, rfl, rfl, by decide +kernel, rfl, by decide +kernel, by decide +kernel⟩
abbrev sWeb_forest : Stmt := inClass (top 30) 6
abbrev NWeb_forest : List Str := ["self"]
theorem scWeb_forest : FnScope NWeb_forest ["self"] (defScope sWeb_forest) := ⟨rfl, rfl, rfl, by decide +kernel, rfl, by decide +kernel, by decide +kernel⟩
abbrev sWeb_path : Stmt := inClass (top 30) 7
abbrev NWeb_path : List Str := ["self", "start", "finish", "found"]
theorem scWeb_path : FnScope NWeb_path ["self", "start", "finish"] (defScope sWeb_path) := ⟨rfl, rfl, rfl, by decide +kernel, rfl, by decide +kernel, by decide +kernel⟩
abbrev sWeb_cycles : Stmt := inClass (top 30) 8
abbrev NWeb_cycles : List Str := ["self"]
theorem scWeb_cycles : FnScope NWeb_cycles ["self"] (defScope sWeb_cycles) := ⟨rfl, rfl, rfl, by decide +kernel, rfl, by decide +kernel, by decide +kernel⟩
abbrev sWeb_len : Stmt := inClass (top 30) 9
abbrev NWeb_len : List Str := ["self"]
theorem scWeb_len : FnScope NWeb_len ["self"] (defScope sWeb_len) := ⟨rfl, rfl, rfl, by decide +kernel, rfl, by decide +kernel, by decide +kernel⟩
abbrev sWeb_eq : Stmt := inClass (top 30) 10
abbrev NWeb_eq : List Str := ["self", "other", "mine"]
theorem scWeb_eq : FnScope NWeb_eq ["self", "other"] (defScope sWeb_eq) := ⟨rfl, rfl, rfl, by decide +kernel, rfl, by decide +kernel, by decide +kernel⟩
abbrev sWeb_repr : Stmt := inClass (top 30) 11
abbrev NWeb_repr : List Str := ["self"]
theorem scWeb_repr : FnScope NWeb_repr ["self"] (defScope sWeb_repr) := ⟨rfl, rfl, rfl, by decide +kernel, rfl, by decide +kernel, by decide +kernel⟩
abbrev scheck_node : Stmt := top 31
abbrev Ncheck_node : List Str := ["web", "node"]
theorem sccheck_node : FnScope Ncheck_node ["web", "node"] (defScope scheck_node) := ⟨rfl, rfl, rfl, by decide +kernel, rfl, by decide +kernel, by decide +kernel⟩
abbrev sresidue : Stmt := top 33
abbrev Nresidue : List Str := ["web", "number"]
theorem scresidue : FnScope Nresidue ["web", "number"] (defScope sresidue) := ⟨rfl, rfl, rfl, by decide +kernel, rfl, by decide +kernel, by decide +kernel⟩
abbrev ssize_of : Stmt := top 34
abbrev Nsize_of : List Str := ["web", "number", "found", "modulus"]
theorem scsize_of : FnScope Nsize_of ["web", "number"] (defScope ssize_of) := ⟨rfl, rfl, rfl, by decide +kernel, rfl, by decide +kernel, by decide +kernel⟩
abbrev sis_residue : Stmt := top 35
abbrev Nis_residue : List Str := ["web", "thing"]
theorem scis_residue : FnScope Nis_residue ["web", "thing"] (defScope sis_residue) := ⟨rfl, rfl, rfl, by decide +kernel, rfl, by decide +kernel, by decide +kernel⟩
abbrev sare_residues : Stmt := top 36
abbrev Nare_residues : List Str := ["web", "thing", "count", "one"]
theorem scare_residues : FnScope Nare_residues ["web", "thing", "count"] (defScope sare_residues) := ⟨rfl, rfl, rfl, by decide +kernel, rfl, by decide +kernel, by decide +kernel⟩
abbrev sis_gains : Stmt := top 37
abbrev Nis_gains : List Str := ["web", "thing"]
theorem scis_gains : FnScope Nis_gains ["web", "thing"] (defScope sis_gains) := ⟨rfl, rfl, rfl, by decide +kernel, rfl, by decide +kernel, by decide +kernel⟩
abbrev sis_potential : Stmt := top 38
abbrev Nis_potential : List Str := ["web", "thing"]
theorem scis_potential : FnScope Nis_potential ["web", "thing"] (defScope sis_potential) := ⟨rfl, rfl, rfl, by decide +kernel, rfl, by decide +kernel, by decide +kernel⟩
abbrev scheck_gains : Stmt := top 39
abbrev Ncheck_gains : List Str := ["web", "gains"]
theorem sccheck_gains : FnScope Ncheck_gains ["web", "gains"] (defScope scheck_gains) := ⟨rfl, rfl, rfl, by decide +kernel, rfl, by decide +kernel, by decide +kernel⟩
abbrev scheck_potential : Stmt := top 40
abbrev Ncheck_potential : List Str := ["web", "potential"]
theorem sccheck_potential : FnScope Ncheck_potential ["web", "potential"] (defScope scheck_potential) := ⟨rfl, rfl, rfl, by decide +kernel, rfl, by decide +kernel, by decide +kernel⟩
abbrev scheck_fixed : Stmt := top 41
abbrev Ncheck_fixed : List Str := ["web", "fixed", "good", "node"]
theorem sccheck_fixed : FnScope Ncheck_fixed ["web", "fixed"] (defScope scheck_fixed) := ⟨rfl, rfl, rfl, by decide +kernel, rfl, by decide +kernel, by decide +kernel⟩
abbrev sswitched : Stmt := top 43
abbrev Nswitched : List Str := ["web", "gains", "potential", "found", "gain", "tail", "head"]
theorem scswitched : FnScope Nswitched ["web", "gains", "potential"] (defScope sswitched) := ⟨rfl, rfl, rfl, by decide +kernel, rfl, by decide +kernel, by decide +kernel⟩
abbrev sdifference_rows : Stmt := top 45
abbrev Ndifference_rows : List Str := ["web", "before", "after", "numbers", "edges", "number"]
theorem scdifference_rows : FnScope Ndifference_rows ["web", "before", "after", "numbers"] (defScope sdifference_rows) := ⟨rfl, rfl, rfl, by decide +kernel, rfl, by decide +kernel, by decide +kernel⟩
abbrev ssystem_of : Stmt := top 46
abbrev Nsystem_of : List Str := ["web", "before", "after"]
theorem scsystem_of : FnScope Nsystem_of ["web", "before", "after"] (defScope ssystem_of) := ⟨rfl, rfl, rfl, by decide +kernel, rfl, by decide +kernel, by decide +kernel⟩
abbrev sleads : Stmt := top 47
abbrev Nleads : List Str := ["web", "before", "after", "potential", "fixed", "node"]
theorem scleads : FnScope Nleads ["web", "before", "after", "potential", "fixed"] (defScope sleads) := ⟨rfl, rfl, rfl, by decide +kernel, rfl, by decide +kernel, by decide +kernel⟩
abbrev schecked_weights : Stmt := top 49
abbrev Nchecked_weights : List Str := ["web", "weights", "good", "weight"]
theorem scchecked_weights : FnScope Nchecked_weights ["web", "weights"] (defScope schecked_weights) := ⟨rfl, rfl, rfl, by decide +kernel, rfl, by decide +kernel, by decide +kernel⟩
abbrev stotal_cost : Stmt := top 50
abbrev Ntotal_cost : List Str := ["web", "potential", "weights", "nodes", "node"]
theorem sctotal_cost : FnScope Ntotal_cost ["web", "potential", "weights", "nodes"] (defScope stotal_cost) := ⟨rfl, rfl, rfl, by decide +kernel, rfl, by decide +kernel, by decide +kernel⟩
abbrev scost : Stmt := top 51
abbrev Ncost : List Str := ["web", "potential", "weights"]
theorem sccost : FnScope Ncost ["web", "potential", "weights"] (defScope scost) := ⟨rfl, rfl, rfl, by decide +kernel, rfl, by decide +kernel, by decide +kernel⟩
abbrev sshifted : Stmt := top 52
abbrev Nshifted : List Str := ["web", "potential", "nodes", "constant", "found", "node"]
theorem scshifted : FnScope Nshifted ["web", "potential", "nodes", "constant"] (defScope sshifted) := ⟨rfl, rfl, rfl, by decide +kernel, rfl, by decide +kernel, by decide +kernel⟩
abbrev sbest_shift : Stmt := top 53
abbrev Nbest_shift : List Str := ["web", "potential", "nodes", "score", "constants", "options", "node", "constant"]
theorem scbest_shift : FnScope Nbest_shift ["web", "potential", "nodes", "score"] (defScope sbest_shift) := ⟨rfl, rfl, rfl, by decide +kernel, rfl, by decide +kernel, by decide +kernel⟩
abbrev sbest_of : Stmt := top 54
abbrev Nbest_of : List Str := ["web", "system", "fixed", "score", "result", "found", "group"]
theorem scbest_of : FnScope Nbest_of ["web", "system", "fixed", "score"] (defScope sbest_of) := ⟨rfl, rfl, rfl, by decide +kernel, rfl, by decide +kernel, by decide +kernel⟩
abbrev scheapest : Stmt := top 55
abbrev Ncheapest : List Str := ["web", "before", "after", "weights", "fixed", "system"]
theorem sccheapest : FnScope Ncheapest ["web", "before", "after", "weights", "fixed"] (defScope scheapest) := ⟨rfl, rfl, rfl, by decide +kernel, rfl, by decide +kernel, by decide +kernel⟩
abbrev sis_cheapest : Stmt := top 56
abbrev Nis_cheapest : List Str := ["web", "before", "after", "thing", "weights", "fixed", "best"]
theorem scis_cheapest : FnScope Nis_cheapest ["web", "before", "after", "thing", "weights", "fixed"] (defScope sis_cheapest) := ⟨rfl, rfl, rfl, by decide +kernel, rfl, by decide +kernel, by decide +kernel⟩
abbrev slaw_pool : Stmt := top 58
abbrev Nlaw_pool : List Str := ["_law_script", "_law_k", "_law_cell", "_law_seed"]
theorem sclaw_pool : FnScope Nlaw_pool ["_law_script", "_law_k"] (defScope slaw_pool) := ⟨rfl, rfl, rfl, by decide +kernel, rfl, by decide +kernel, by decide +kernel⟩
abbrev slaw_take : Stmt := top 59
abbrev Nlaw_take : List Str := ["_law_pool_here", "_law_sides", "_law_found"]
theorem sclaw_take : FnScope Nlaw_take ["_law_pool_here", "_law_sides"] (defScope slaw_take) := ⟨rfl, rfl, rfl, by decide +kernel, rfl, by decide +kernel, by decide +kernel⟩
abbrev slaw_links : Stmt := top 60
abbrev Nlaw_links : List Str := ["_law_pool_here", "_law_nodes", "_law_most", "_law_found", "_law_turn"]
theorem sclaw_links : FnScope Nlaw_links ["_law_pool_here", "_law_nodes", "_law_most"] (defScope slaw_links) := ⟨rfl, rfl, rfl, by decide +kernel, rfl, by decide +kernel, by decide +kernel⟩
abbrev slaw_low : Stmt := top 61
abbrev Nlaw_low : List Str := ["_law_number_here", "_law_dial"]
theorem sclaw_low : FnScope Nlaw_low ["_law_number_here", "_law_dial"] (defScope slaw_low) := ⟨rfl, rfl, rfl, by decide +kernel, rfl, by decide +kernel, by decide +kernel⟩
abbrev slaw_number : Stmt := top 62
abbrev Nlaw_number : List Str := ["_law_pool_here", "_law_dial"]
theorem sclaw_number : FnScope Nlaw_number ["_law_pool_here", "_law_dial"] (defScope slaw_number) := ⟨rfl, rfl, rfl, by decide +kernel, rfl, by decide +kernel, by decide +kernel⟩
abbrev slaw_numbers : Stmt := top 63
abbrev Nlaw_numbers : List Str := ["_law_pool_here", "_law_dial", "_law_count", "_law_turn"]
theorem sclaw_numbers : FnScope Nlaw_numbers ["_law_pool_here", "_law_dial", "_law_count"] (defScope slaw_numbers) := ⟨rfl, rfl, rfl, by decide +kernel, rfl, by decide +kernel, by decide +kernel⟩
abbrev slaw_groups : Stmt := top 64
abbrev Nlaw_groups : List Str := ["_law_nodes", "_law_links_here", "_law_names", "_law_turn", "_law_tail", "_law_head", "_law_least", "_law_first", "_law_node"]
theorem sclaw_groups : FnScope Nlaw_groups ["_law_nodes", "_law_links_here"] (defScope slaw_groups) := ⟨rfl, rfl, rfl, by decide +kernel, rfl, by decide +kernel, by decide +kernel⟩
abbrev slaw_lowest : Stmt := top 65
abbrev Nlaw_lowest : List Str := ["_law_nodes", "_law_links_here", "_law_levels", "_law_heavy", "_law_group", "_law_above", "_law_below", "_law_node"]
theorem sclaw_lowest : FnScope Nlaw_lowest ["_law_nodes", "_law_links_here", "_law_levels", "_law_heavy"] (defScope slaw_lowest) := ⟨rfl, rfl, rfl, by decide +kernel, rfl, by decide +kernel, by decide +kernel⟩
abbrev slaw : Stmt := top 66
abbrev Nlaw : List Str := ["_law_script", "_law_k", "_law_pool_here", "_law_nodes", "_law_links_here", "_law_web", "_law_old", "_law_turn", "_law_levels", "_law_heavy", "_law_thing", "_law_due", "_law_node"]
theorem sclaw : FnScope Nlaw ["_law_script"] (defScope slaw) := ⟨rfl, rfl, rfl, by decide +kernel, rfl, by decide +kernel, by decide +kernel⟩
end K29
namespace K29
open PySem PySem.Spec PyProof.Rows L2
/-! ### defs and methods as they stand behind the top -/
structure DefAt (K : PySem.W.Frag) (mg : Str → Option Value) (x : Str) (st : Stmt) : Prop where
  ex : ∃ (f : Addr) (fd : FuncData), FunD K x x (defArgs st) (defBody st) (defScope st) [] [] f fd ∧ mg x = some (.ref f)
structure MetAt (K : PySem.W.Frag) (C : Addr) (m qual : Str) (st : Stmt) : Prop where
  ex : ∃ (f : Addr) (fd : FuncData), Cls K C ∧ Meth K C m f ∧ FunD K m qual (defArgs st) (defBody st) (defScope st) [] [] f fd
abbrev Body (P : Program) (w : World) (K : PySem.W.Frag) (mg : Str → Option Value) (base : Heap) (N : List Str) (qual : Str) (st : Stmt) (k : Nat) (sp : Sp) : Prop :=
  ∀ (f : Addr) (cdv : Value) (A : Around) (outer : List Env) (s : Shared) (H : Hp) (vs : List V) (Q : VK) (E : XK), Room k (A.deeper (envOfC qual (defScope st) s.heap.objs.size f cdv)) → sp vs H Q E →
      ∃ t, PSs (cxOf C8.CX0 P w K mg base N qual (defScope st) f cdv A outer s H E).nox (defBody st) t ∧ t { nx := fun _ H' => Q .non H', rt := Q } (start N vs) H
section
variable {P : Program} {w : World} {K : PySem.W.Frag} {mg : Str → Option Value} {base : Heap}
theorem DefAt.cal {x : Str} {st : Stmt} {N ps : List Str} {k : Nat} {sp : Sp} (D : DefAt K mg x st) (S : FnScope N ps (defScope st))
    (hb : ∀ (kV doc pm : Value) (an : Option Addr) (cdv ct : Value) (us : List Value), us.length = ps.length → bindArgs (PySem.W.fnOf x x (defArgs st) (defBody st) (defScope st) .none kV doc pm an cdv ct) ⟨us, []⟩ = pure (ps.zip us))
    (len : ∀ vs H Q E, sp vs H Q E → vs.length = ps.length) (hbody : Body P w K mg base N x st k sp) : C8.Cal P w K mg base (k + 1) x sp [] := by
  obtain ⟨f, fd, F, hm⟩ := D.ex
  refine ⟨f, fd, ps, [], F.ok S len (fun cdv A outer s H vs Q E hr h => ?_), hm, F.kp, FunD.bindsN F hb, .nil⟩
  obtain ⟨t, h1, h2⟩ := hbody f cdv A outer s H vs Q E hr h
  exact ⟨t, h1.nox, h2⟩
theorem MetAt.met {C : Addr} {m qual : Str} {st : Stmt} {N ps : List Str} {k : Nat} {sp : Sp} (D : MetAt K C m qual st) (S : FnScope N ps (defScope st))
    (hb : ∀ (kV doc pm : Value) (an : Option Addr) (cdv ct : Value) (us : List Value), us.length = ps.length → bindArgs (PySem.W.fnOf m qual (defArgs st) (defBody st) (defScope st) .none kV doc pm an cdv ct) ⟨us, []⟩ = pure (ps.zip us))
    (len : ∀ vs H Q E, sp vs H Q E → vs.length = ps.length) (hbody : Body P w K mg base N qual st k sp) : C8.Met P w K mg base (k + 1) C m sp [] := by
  obtain ⟨f, fd, c, hm, F⟩ := D.ex
  refine ⟨f, fd, ps, [], c, hm, F.ok S len (fun cdv A outer s H vs Q E hr h => ?_), FunD.bindsN F hb, .nil⟩
  obtain ⟨t, h1, h2⟩ := hbody f cdv A outer s H vs Q E hr h
  exact ⟨t, h1.nox, h2⟩
end
/-! ### the built-in names, not bound by the module -/
structure Bn (mg : Str → Option Value) : Prop where
  len : mg "len" = none
  abs : mg "abs" = none
  min : mg "min" = none
  max : mg "max" = none
  sum : mg "sum" = none
  all : mg "all" = none
  any : mg "any" = none
  sorted : mg "sorted" = none
  repr : mg "repr" = none
  isinstance : mg "isinstance" = none
  list : mg "list" = none
  set : mg "set" = none
  tuple : mg "tuple" = none
  int : mg "int" = none
  bool : mg "bool" = none
  str : mg "str" = none
  range : mg "range" = none
  enumerate : mg "enumerate" = none
  zip : mg "zip" = none
/-! ### heaps -/
theorem _root_.L2.Same.tup {K : PySem.W.Frag} {H H' : Hp} {a : Addr} {xs : List V} (e : Same H H') (h : SqT K H a xs) : SqT K H' a xs := by
  rcases h with (h | ⟨o, h⟩) | h
  · exact .inl (.inl (e _ _ h))
  · exact .inl (.inr ⟨o, e _ _ h⟩)
  · exact .inr h
theorem same_upd {H : Hp} {p : Addr} {o : HO} (h : H p = none) : Same H (upd H p o) := fun b x e => by
  rw [upd_ne (ne_of_none e h)]
  exact e
theorem _root_.L2.Same.updN {H0 H : Hp} {p : Addr} {o : HO} (e : Same H0 H) (h : H0 p = none) : Same H0 (upd H p o) := fun b x q => by
  rw [upd_ne (ne_of_none q h)]
  exact e _ _ q
end K29
namespace K29
open PySem PySem.Spec PyProof.Rows L2
/-! ### comprehensions that change nothing -/
theorem take_fm {α β : Type} (F : α → Option β) {xs : List α} {i : Nat} {x : α} (h : xs[i]? = some x) : (xs.take (i + 1)).filterMap F = (xs.take i).filterMap F ++ (F x).toList := by
  rw [List.take_add_one, List.filterMap_append, h]
  cases e : F x <;> simp [e]
theorem lc_fm {K : PySem.W.Frag} {a : Addr} {xs : List V} {g : TG} {tt : TT} {te : TE} {vs : List Nat} {σ : L2.St} {H1 : Hp} {D : Addr} {Qd : Hp → Prop} (F : V → Option V) (hS : SqL K H1 a xs) (hD : H1 D = none) (hz : xs.length ≤ sizeLine)
    (hs : ∀ (i : Nat) (x : V) acc (R : VK) (N : Hp → Prop), xs[i]? = some x → (∀ y, F x = some y → R y (upd H1 D (.lst acc))) → (F x = none → N (upd H1 D (.lst acc))) →
      g x (wipe σ vs) (upd H1 D (.lst acc)) fun σ2 H2 => wipe σ2 vs = wipe σ vs ∧ tt σ2 H2 fun b H3 => if b = true then te σ2 H3 R else N H3)
    (hd : Qd (upd H1 D (.lst (xs.filterMap F)))) :
    ∃ W : Nat → Nat → Hp → Prop, (∃ m, W 0 m (upd H1 D (.lst []))) ∧ ∀ i m H, W i m H →
      ((Itl K a).stop i H ∧ Qd H) ∨ ((Itl K a).go i H ∧ ∃ Nx : Hp → Prop, (∀ H', Nx H' → ∃ m', m' < m ∧ W (i + 1) m' H') ∧ ∀ x H', (Itl K a).yld i H x H' → g x (wipe σ vs) H' fun σ2 H2 => wipe σ2 vs = wipe σ vs ∧ tt σ2 H2 fun b H3 =>
        if b = true then te σ2 H3 fun y H4 => ∃ acc, H4 D = some (.lst acc) ∧ acc.length < sizeLine ∧ Nx (upd H4 D (.lst (acc ++ [y]))) else Nx H3) := by
  refine lc_list (xs := xs) (fun i H => H = upd H1 D (.lst ((xs.take i).filterMap F))) rfl (fun i H _ e => ?_) (fun i x H hx e => ?_) (fun H e => ?_)
  · rw [e]
    exact Same.seq (same_upd hD) hS
  · subst e
    have hi : i < xs.length := (List.getElem?_eq_some_iff.mp hx).1
    have hl : ((xs.take i).filterMap F).length < sizeLine := Nat.lt_of_le_of_lt (List.length_filterMap_le F (xs.take i)) (by rw [List.length_take]; omega)
    refine hs i x _ _ _ hx (fun y ey => ⟨_, upd_same, hl, ?_⟩) (fun en => ?_)
    · rw [upd_upd, take_fm F hx, ey] <;> rfl
    · rw [take_fm F hx, en]
      simp
  · rw [List.take_length] at e
    rw [e]
    exact hd
theorem lc_fmR {lo : Int} {n : Nat} {g : TG} {tt : TT} {te : TE} {vs : List Nat} {σ : L2.St} {H1 : Hp} {D : Addr} {Qd : Hp → Prop} (F : Nat → Option V) (hz : n ≤ sizeLine)
    (hs : ∀ (i : Nat) acc (R : VK) (N : Hp → Prop), i < n → (∀ y, F i = some y → R y (upd H1 D (.lst acc))) → (F i = none → N (upd H1 D (.lst acc))) →
      g (.int (lo + i)) (wipe σ vs) (upd H1 D (.lst acc)) fun σ2 H2 => wipe σ2 vs = wipe σ vs ∧ tt σ2 H2 fun b H3 => if b = true then te σ2 H3 R else N H3)
    (hd : Qd (upd H1 D (.lst ((List.range n).filterMap F)))) :
    ∃ W : Nat → Nat → Hp → Prop, (∃ m, W 0 m (upd H1 D (.lst []))) ∧ ∀ i m H, W i m H →
      ((Itr lo n).stop i H ∧ Qd H) ∨ ((Itr lo n).go i H ∧ ∃ Nx : Hp → Prop, (∀ H', Nx H' → ∃ m', m' < m ∧ W (i + 1) m' H') ∧ ∀ x H', (Itr lo n).yld i H x H' → g x (wipe σ vs) H' fun σ2 H2 => wipe σ2 vs = wipe σ vs ∧ tt σ2 H2 fun b H3 =>
        if b = true then te σ2 H3 fun y H4 => ∃ acc, H4 D = some (.lst acc) ∧ acc.length < sizeLine ∧ Nx (upd H4 D (.lst (acc ++ [y]))) else Nx H3) := by
  have fm : ∀ i, (List.range (i + 1)).filterMap F = (List.range i).filterMap F ++ (F i).toList := fun i => by
    rw [List.range_succ, List.filterMap_append]
    cases e : F i <;> simp [e]
  refine lc_range (fun i H => H = upd H1 D (.lst ((List.range i).filterMap F))) rfl (fun i H hi e => ?_) (fun H e => by rw [e]; exact hd)
  subst e
  have hl : ((List.range i).filterMap F).length < sizeLine := Nat.lt_of_le_of_lt (List.length_filterMap_le F _) (by rw [List.length_range]; omega)
  refine hs i _ _ _ hi (fun y ey => ⟨_, upd_same, hl, ?_⟩) (fun en => ?_)
  · rw [upd_upd, fm, ey] <;> rfl
  · rw [fm, en]
    simp
theorem fm_some {α β : Type} (f : α → β) : ∀ xs : List α, xs.filterMap (fun x => some (f x)) = xs.map f := fun xs => by
  rw [List.filterMap_eq_map']
/-! ### values by relation -/
theorem blQ {Q : VK} {H : Hp} {a b : Bool} (k : Q (.bl b) H) (e : a = b) : Q (.bl a) H := by rw [e]; exact k
theorem intQ {Q : VK} {H : Hp} {a b : Int} (k : Q (.int b) H) (e : a = b) : Q (.int a) H := by rw [e]; exact k
theorem ixN_nat {n j : Nat} (h : j < n) : ixN n (j : Int) = some j := by
  unfold ixN
  rw [if_pos (by omega), if_pos (by omega)]
  simp
/-- a pair of nodes -/
def PairR (H : Hp) (v : V) (e : Nat × Nat) : Prop := ∃ t, v = .ref t ∧ H t = some (.tup [.int e.1, .int e.2])
def LstR {α : Type} (R : V → α → Prop) (H : Hp) (a : Addr) (xs : List α) : Prop := ∃ vs, H a = some (.lst vs) ∧ Paired R vs xs
def Tups (H H' : Hp) : Prop := ∀ b xs, H b = some (.tup xs) → H' b = some (.tup xs)
theorem _root_.L2.Same.tups {H H' : Hp} (e : Same H H') : Tups H H' := fun b xs h => e b _ h
theorem Tups.refl (H : Hp) : Tups H H := fun _ _ h => h
theorem Tups.trans {H H1 H2 : Hp} (a : Tups H H1) (b : Tups H1 H2) : Tups H H2 := fun c o h => b c o (a c o h)
theorem Tups.updN {H : Hp} {p : Addr} {o : HO} (h : H p = none) : Tups H (upd H p o) := L2.Same.tups (same_upd h)
theorem Tups.updL {H : Hp} {p : Addr} {o : HO} {ys : List V} (h : H p = some (.lst ys)) : Tups H (upd H p o) := fun b xs e => by
  rw [upd_ne (ne_of e h (by intro z; cases z))]
  exact e
theorem PairR.mono {H H' : Hp} (e : Tups H H') {v : V} {x : Nat × Nat} (h : PairR H v x) : PairR H' v x := by
  obtain ⟨t, r, q⟩ := h
  exact ⟨t, r, e _ _ q⟩
theorem Paired.len {α β : Type} {F : α → β → Prop} {xs : List α} {ys : List β} (h : Paired F xs ys) : xs.length = ys.length := Paired.length h
theorem Paired.at {α β : Type} {F : α → β → Prop} : ∀ {xs : List α} {ys : List β} {i : Nat} {y : β}, Paired F xs ys → ys[i]? = some y → ∃ x, xs[i]? = some x ∧ F x y
  | _, _, i, y, .nil, h => by simp at h
  | _, _, 0, y, .cons r t, h => by
    simp at h
    subst h
    exact ⟨_, rfl, r⟩
  | _, _, i + 1, y, .cons r t, h => by
    obtain ⟨x, h1, h2⟩ := Paired.at t (by simpa using h)
    exact ⟨x, by simpa using h1, h2⟩
theorem Paired.at' {α β : Type} {F : α → β → Prop} : ∀ {xs : List α} {ys : List β} {i : Nat} {x : α}, Paired F xs ys → xs[i]? = some x → ∃ y, ys[i]? = some y ∧ F x y
  | _, _, i, y, .nil, h => by simp at h
  | _, _, 0, y, .cons r t, h => by
    simp at h
    subst h
    exact ⟨_, rfl, r⟩
  | _, _, i + 1, y, .cons r t, h => by
    obtain ⟨x, h1, h2⟩ := Paired.at' t (by simpa using h)
    exact ⟨x, by simpa using h1, h2⟩
theorem Paired.app {α β : Type} {F : α → β → Prop} : ∀ {xs xs' : List α} {ys ys' : List β}, Paired F xs ys → Paired F xs' ys' → Paired F (xs ++ xs') (ys ++ ys')
  | _, _, _, _, .nil, h => h
  | _, _, _, _, .cons r t, h => .cons r (Paired.app t h)
theorem Paired.of_map {α β : Type} {F : α → β → Prop} (f : β → α) (h : ∀ y, F (f y) y) : ∀ ys : List β, Paired F (ys.map f) ys
  | [] => .nil
  | y :: ys => .cons (h y) (Paired.of_map f h ys)
abbrev EdgesAt (H : Hp) (a : Addr) (es : List (Nat × Nat)) : Prop := LstR (PairR H) H a es
theorem EdgesAt.mono {H H' : Hp} {a : Addr} {es : List (Nat × Nat)} (h : EdgesAt H a es) (e : Tups H H') (ha : ∀ o, H a = some o → H' a = some o) : EdgesAt H' a es := by
  obtain ⟨vs, h1, h2⟩ := h
  exact ⟨vs, ha _ h1, Paired.mapP h2 fun v x => PairR.mono e⟩
theorem EdgesAt.same {H H' : Hp} {a : Addr} {es : List (Nat × Nat)} (h : EdgesAt H a es) (e : Same H H') : EdgesAt H' a es := h.mono e.tups (e _)
/-- a list of ints -/
abbrev IntsAt (H : Hp) (a : Addr) (ns : List Int) : Prop := H a = some (.lst (ns.map V.int))
theorem map_int_get {ns : List Int} {i : Nat} {x : V} (h : (ns.map V.int)[i]? = some x) : ∃ n, ns[i]? = some n ∧ x = .int n := by
  rw [List.getElem?_map] at h
  cases e : ns[i]? with
  | none => rw [e] at h; cases h
  | some n =>
    rw [e] at h
    exact ⟨n, rfl, (Option.some.inj h).symm⟩
theorem int_map_get {ns : List Int} {i : Nat} {n : Int} (h : ns[i]? = some n) : (ns.map V.int)[i]? = some (.int n) := by
  rw [List.getElem?_map, h]
  rfl
theorem atI_int {ns : List Int} {i : Nat} {n : Int} (h : ns[i]? = some n) : atI (ns.map V.int) (i : Int) = some (.int n) := atI_nat (int_map_get h)
theorem getD_at {ns : List Int} {i : Nat} (h : i < ns.length) : ns[i]? = some (ns.getD i 0) := by
  simp [h]
end K29
namespace K29
open PySem PySem.Spec PyProof.Rows L2
/-- a node -/
abbrev nI (v : Nat) : V := .int (v : Int)
abbrev NodesAt (H : Hp) (a : Addr) (g : List Nat) : Prop := H a = some (.lst (g.map nI))
def GrpR (H : Hp) (v : V) (g : List Nat) : Prop := ∃ a, v = .ref a ∧ NodesAt H a g
abbrev GroupsAt (H : Hp) (l : Addr) (gs : List (List Nat)) : Prop := LstR (GrpR H) H l gs
theorem GroupsAt.same {H H' : Hp} {a : Addr} {gs : List (List Nat)} (h : GroupsAt H a gs) (e : Same H H') : GroupsAt H' a gs := by
  obtain ⟨vs, h1, h2⟩ := h
  exact ⟨vs, e _ _ h1, Paired.mapP h2 fun v x ⟨a, r, q⟩ => ⟨a, r, e _ _ q⟩⟩
theorem rgV_nodes (n : Nat) : rgV 0 (n : Int) = (List.range n).map nI := by
  unfold rgV
  rw [show ((n : Int) - 0).toNat = n by omega]
  refine List.map_congr_left fun i _ => ?_
  show V.int (0 + (i : Int)) = V.int (i : Int)
  rw [Int.zero_add]
theorem nodes_flat (g : List Nat) : (g.map nI).all flatV = true := by
  rw [List.all_map]
  exact List.all_eq_true.mpr fun _ _ => rfl
theorem inV_nodes (v : Nat) (g : List Nat) : inV (nI v) (g.map nI) = g.any fun y => y == v := by
  unfold inV
  rw [List.any_map]
  refine congrArg (fun f => g.any f) (funext fun y => ?_)
  show ((y : Int) == (v : Int)) = (y == v)
  by_cases h : y = v
  · subst h
    simp
  · have h2 : ¬ (y : Int) = (v : Int) := by omega
    rw [beq_eq_false_iff_ne.mpr h, beq_eq_false_iff_ne.mpr h2]
theorem node_at {g : List Nat} {i v : Nat} (h : g[i]? = some v) : (g.map nI)[i]? = some (nI v) := by
  rw [List.getElem?_map, h] <;> rfl
theorem node_at' {g : List Nat} {i : Nat} {x : V} (h : (g.map nI)[i]? = some x) : ∃ v, g[i]? = some v ∧ x = nI v := by
  rw [List.getElem?_map] at h
  cases e : g[i]? with
  | none => rw [e] at h; cases h
  | some n =>
    rw [e] at h
    exact ⟨n, rfl, (Option.some.inj h).symm⟩
theorem atI_node {g : List Nat} {i v : Nat} (h : g[i]? = some v) : atI (g.map nI) (i : Int) = some (nI v) := atI_nat (node_at h)
theorem getN_at {g : List Nat} {i : Nat} (h : i < g.length) : g[i]? = some (g.getD i 0) := by simp [h]
theorem dec_node {a b : Nat} : decide (nI a = nI b) = decide (a = b) := by
  by_cases h : a = b
  · subst h
    simp
  · have h2 : ¬ nI a = nI b := fun z => by
      have z1 : (a : Int) = (b : Int) := V.int.inj z
      omega
    rw [decide_eq_false h, decide_eq_false h2]
/-- a group that is not at l -/
def GrpN (H : Hp) (l : Addr) (v : V) (g : List Nat) : Prop := ∃ a, v = .ref a ∧ a ≠ l ∧ NodesAt H a g
theorem fm_filter {α β : Type} (p : α → Bool) (f : α → β) (xs : List α) : xs.filterMap (fun v => if p v = true then some (f v) else none) = (xs.filter p).map f := by
  induction xs with
  | nil => rfl
  | cons x r ih =>
    rw [List.filterMap_cons, List.filter_cons]
    by_cases h : p x = true
    · rw [if_pos h, if_pos h, List.map_cons, ih]
    · rw [if_neg h, if_neg h, ih]
theorem small_lt {n : Nat} (h : n ≤ 1000) : n < sizeLine := small1000 h
end K29
namespace K29
open PySem PySem.Spec PyProof.Rows L2
/-! ### rules with K told -/
section
variable {X : Cx} {K : PySem.W.Frag}
theorem ixL (K : PySem.W.Frag) (h : X.K = K := by rfl) : IxR X (rIxL K) := by
  subst h
  exact ix_list
theorem ixT (K : PySem.W.Frag) (h : X.K = K := by rfl) : IxR X (rIxT K) := by
  subst h
  exact ix_tup
theorem opIn (K : PySem.W.Frag) (h : X.K = K := by rfl) : OpR X (compareOp .In) (rIn K false) := by
  subst h
  exact op_in_seq
theorem opNotIn (K : PySem.W.Frag) (h : X.K = K := by rfl) : OpR X (compareOp .NotIn) (rIn K true) := by
  subst h
  exact op_notIn_seq
theorem piL (K : PySem.W.Frag) {tg l : Expr} {tl : TE} (hl : PE X l tl) (h : X.K = K := by rfl) : PI X tg l (iList K tl) := by
  subst h
  exact pi_list hl
theorem pgT (K : PySem.W.Frag) {es : List Expr} {k : Nat} {t : TGs} {n : Nat} {pos : Pos} (hc : X.calm = true) (h : PGs X es t) (hK : X.K = K := by rfl) (hn : es.length = n := by rfl)
    (h1 : (assignEach es X.env).length = es.length := by rfl) (hst : List.findIdx? (fun x => x.1) (assignEach es X.env) = none := by rfl) : PG X (.Tuple es k pos) (gTup K n t) := by
  subst hK
  subst hn
  exact pg_tup hc h h1 hst
theorem fldK (K : PySem.W.Frag) {e : Expr} {f : Str} {pos : Pos} {ta : TE} (he : PE X e ta) (hb : attributeBase e f X.env (eval e X.env) = eval e X.env) (h : X.K = K := by rfl) : PE X (.Attribute e f pos) (tFld K ta f) := by
  subst h
  exact pe_fld he hb
theorem catT (K : PySem.W.Frag) (h : X.K = K := by rfl) : OpR X (binaryOp .Add) (rCatT K) := by
  subst h
  exact op_catT
theorem cLen (K : PySem.W.Frag) (h : X.K = K := by rfl) : CallR X (.builtin "len") (fun xs H Q => ∃ p ys, xs = [.ref p] ∧ (SqL K H p ys ∨ SqT K H p ys) ∧ Q (.int ys.length) H) := by
  subst h
  exact call_len_seq
theorem cSum (K : PySem.W.Frag) (hc : X.calm = true) (h : X.K = K := by rfl) : CallR X (.builtin "sum") (rSum K) := by
  subst h
  exact cr_sum hc
theorem cAny (K : PySem.W.Frag) (hc : X.calm = true) (h : X.K = K := by rfl) : CallR X (.builtin "any") (rAny K) := by
  subst h
  exact cr_any hc
theorem cAll (K : PySem.W.Frag) (hc : X.calm = true) (h : X.K = K := by rfl) : CallR X (.builtin "all") (rAll K) := by
  subst h
  exact cr_all hc
theorem cIsi (K : PySem.W.Frag) (h : X.K = K := by rfl) : CallR X (.builtin "isinstance") (rIsi K) := by
  subst h
  exact call_isi
theorem cIsiT (K : PySem.W.Frag) (h : X.K = K := by rfl) : CallR X (.builtin "isinstance") (rIsiT K) := by
  subst h
  exact call_isiT
end
end K29
namespace K29
open PySem PySem.Spec PyProof.Rows L2
/-- a comprehension over a list of mapped data that changes nothing -/
theorem lc_fg {α : Type} {K : PySem.W.Frag} {a : Addr} (φ : α → V) {xs : List α} {g : TG} {tt : TT} {te : TE} {vs : List Nat} {σ : L2.St} {H1 : Hp} {D : Addr} {Qd : Hp → Prop} (F : α → Option V) (hS : SqL K H1 a (xs.map φ)) (hD : H1 D = none) (hz : xs.length ≤ sizeLine)
    (hs : ∀ (i : Nat) (x : α) acc (R : VK) (N : Hp → Prop), xs[i]? = some x → (∀ y, F x = some y → R y (upd H1 D (.lst acc))) → (F x = none → N (upd H1 D (.lst acc))) →
      g (φ x) (wipe σ vs) (upd H1 D (.lst acc)) fun σ2 H2 => wipe σ2 vs = wipe σ vs ∧ tt σ2 H2 fun b H3 => if b = true then te σ2 H3 R else N H3)
    (hd : Qd (upd H1 D (.lst (xs.filterMap F)))) :
    ∃ W : Nat → Nat → Hp → Prop, (∃ m, W 0 m (upd H1 D (.lst []))) ∧ ∀ i m H, W i m H →
      ((Itl K a).stop i H ∧ Qd H) ∨ ((Itl K a).go i H ∧ ∃ Nx : Hp → Prop, (∀ H', Nx H' → ∃ m', m' < m ∧ W (i + 1) m' H') ∧ ∀ x H', (Itl K a).yld i H x H' → g x (wipe σ vs) H' fun σ2 H2 => wipe σ2 vs = wipe σ vs ∧ tt σ2 H2 fun b H3 =>
        if b = true then te σ2 H3 fun y H4 => ∃ acc, H4 D = some (.lst acc) ∧ acc.length < sizeLine ∧ Nx (upd H4 D (.lst (acc ++ [y]))) else Nx H3) := by
  refine lc_list (xs := xs.map φ) (fun i H => H = upd H1 D (.lst ((xs.take i).filterMap F))) rfl (fun i H _ e => ?_) (fun i x H hx e => ?_) (fun H e => ?_)
  · rw [e]
    exact Same.seq (same_upd hD) hS
  · subst e
    obtain ⟨y, hy, ey⟩ : ∃ y, xs[i]? = some y ∧ φ y = x := by
      rw [List.getElem?_map] at hx
      cases e : xs[i]? with
      | none => rw [e] at hx; cases hx
      | some y => rw [e] at hx; exact ⟨y, rfl, Option.some.inj hx⟩
    subst ey
    have hi : i < xs.length := (List.getElem?_eq_some_iff.mp hy).1
    have hl : ((xs.take i).filterMap F).length < sizeLine := Nat.lt_of_le_of_lt (List.length_filterMap_le F (xs.take i)) (by rw [List.length_take]; omega)
    refine hs i y _ _ _ hy (fun z ez => ⟨_, upd_same, hl, ?_⟩) (fun en => ?_)
    · rw [upd_upd, take_fm F hy, ez] <;> rfl
    · rw [take_fm F hy, en]
      simp
  · rw [List.length_map, List.take_length] at e
    rw [e]
    exact hd
theorem fm_some2 {α β : Type} (F : α → Option β) (f : α → β) (h : ∀ x, F x = some (f x)) (xs : List α) : xs.filterMap F = xs.map f := by
  rw [show F = fun x => some (f x) from funext h, List.filterMap_eq_map']
theorem fm_int (p : Nat → Bool) (f : Nat → Int) (xs : List Nat) : xs.filterMap (fun v => if p v = true then some (V.int (f v)) else none) = ((xs.filter p).map f).map V.int := by
  rw [fm_filter, List.map_map] <;> rfl
end K29
namespace K29
open PySem PySem.Spec PyProof.Rows L2
theorem Paired.mapI {α β : Type} {F G : α → β → Prop} : ∀ {xs : List α} {ys : List β}, Paired F xs ys → (∀ x y, x ∈ xs → y ∈ ys → F x y → G x y) → Paired G xs ys
  | _, _, .nil, _ => .nil
  | _, _, .cons r t, h => .cons (h _ _ List.mem_cons_self List.mem_cons_self r) (Paired.mapI t fun x y hx hy => h x y (List.mem_cons_of_mem _ hx) (List.mem_cons_of_mem _ hy))
theorem Paired.setR {α β : Type} {F G : α → β → Prop} : ∀ {xs : List α} {ys : List β} {i : Nat} {y' : β}, Paired F xs ys → (∀ j x y, j ≠ i → xs[j]? = some x → ys[j]? = some y → F x y → G x y) → (∀ x y, xs[i]? = some x → ys[i]? = some y → F x y → G x y') → Paired G xs (ys.set i y')
  | _, _, _, _, .nil, _, _ => .nil
  | _, _, 0, _, .cons r t, h, h2 => .cons (h2 _ _ rfl rfl r) (by
      have e : ∀ {xs : List α} {ys : List β}, Paired F xs ys → (∀ (j : Nat) x y, xs[j]? = some x → ys[j]? = some y → F x y → G x y) → Paired G xs ys := fun {xs ys} p k => by
        induction p with
        | nil => exact .nil
        | cons r t ih => exact .cons (k 0 _ _ rfl rfl r) (ih fun j x y a b => k (j + 1) x y (by simpa using a) (by simpa using b))
      exact e t fun j x y a b => h (j + 1) x y (Nat.succ_ne_zero j) (by simpa using a) (by simpa using b))
  | _, _, i + 1, _, .cons r t, h, h2 => .cons (h 0 _ _ (by omega) rfl rfl r) (Paired.setR t (fun j x y n a b => h (j + 1) x y (by omega) (by simpa using a) (by simpa using b)) fun x y a b => h2 x y (by simpa using a) (by simpa using b))
abbrev Trip := Nat × Int × Nat
def TripR (H : Hp) (v : V) (x : Trip) : Prop := ∃ t, v = .ref t ∧ H t = some (.tup [nI x.1, .int x.2.1, nI x.2.2])
theorem TripR.mono {H H' : Hp} (e : Tups H H') {v : V} {x : Trip} (h : TripR H v x) : TripR H' v x := by
  obtain ⟨t, r, q⟩ := h
  exact ⟨t, r, e _ _ q⟩
/-- links: a list of lists of triples -/
def LinkR (H : Hp) (a : Addr) (l : List Trip) : Prop := LstR (TripR H) H a l
def LinksAt (H : Hp) (F : Addr) (ls : List (List Trip)) : Prop := ∃ As : List Addr, H F = some (.lst (As.map V.ref)) ∧ Paired (LinkR H) As ls
theorem LinkR.same {H H' : Hp} (e : Same H H') {a : Addr} {l : List Trip} (h : LinkR H a l) : LinkR H' a l := by
  obtain ⟨vs, h1, h2⟩ := h
  exact ⟨vs, e _ _ h1, Paired.mapP h2 fun v x => TripR.mono (L2.Same.tups e)⟩
theorem LinksAt.same {H H' : Hp} (e : Same H H') {F : Addr} {ls : List (List Trip)} (h : LinksAt H F ls) : LinksAt H' F ls := by
  obtain ⟨As, h1, h2⟩ := h
  exact ⟨As, e _ _ h1, Paired.mapP h2 fun a l => LinkR.same e⟩
theorem ref_at {As : List Addr} {i : Nat} {a : Addr} (h : As[i]? = some a) : (As.map V.ref)[i]? = some (.ref a) := by
  rw [List.getElem?_map, h] <;> rfl
theorem map_ref_inj : ∀ {xs ys : List Addr}, xs.map V.ref = ys.map V.ref → xs = ys
  | [], [], _ => rfl
  | [], _ :: _, h => by cases h
  | _ :: _, [], h => by cases h
  | x :: xs, y :: ys, h => by
    rw [List.map_cons, List.map_cons] at h
    injection h with h1 h2
    rw [V.ref.inj h1, map_ref_inj h2]
theorem upd_none' {H : Hp} {a b : Addr} {o : HO} (e : upd H a o b = none) : H b = none := by
  unfold upd at e
  split at e
  · cases e
  · exact e
theorem nodup_at {α : Type} {xs : List α} (h : xs.Nodup) {i j : Nat} {x : α} (a : xs[i]? = some x) (b : xs[j]? = some x) : i = j := by
  exact (List.getElem?_inj (List.getElem?_eq_some_iff.mp a).1 h).mp (a.trans b.symm)
end K29
namespace K29
open PySem PySem.Spec PyProof.Rows L2
/-! ### d.update(e), dict comprehensions over lists, a dict locked for good -/
section
variable {X : Cx}
theorem mt_dupdate : MtR X "dict.update" (fun x xs H Q => ∃ (a b : Addr) (kvs more : List (L2.Key × V)), x = .ref a ∧ xs = [.ref b] ∧ a ≠ b ∧ H a = some (.dK kvs) ∧ H b = some (.dK more) ∧ kvs.length + more.length ≤ sizeLine ∧ Q .non (upd H a (.dK (mergeK kvs more)))) := by
  intro pins s σ H x xs v us Q I rx rv h
  obtain ⟨a, b, kvs, more, ex, exs, nab, ha, hb, hz, q⟩ := h
  subst ex
  subst exs
  obtain rfl : v = Value.ref a := rx
  obtain ⟨u, rfl, ru⟩ := vals1 rv
  obtain rfl : u = Value.ref b := ru
  obtain ⟨z1, hd1, vs1, rel1, dd1⟩ := dk_of I.hok ha
  obtain ⟨z2, hd2, vs2, rel2, dd2⟩ := dk_of I.hok hb
  refine call_meetsIn PySem.F.slot_dict_update dd1.typeIs PySem.F.entry_dict_update (PySem.F.args_dict_update_2 _ _) (meets_dict_update (mixKind X.prog X.w) a b nab hd2)
    ⟨vs1, vs2, dd1, dd2, by rw [← KV.length rel1, ← KV.length rel2]; exact hz, fun h' dd' _ hs => ?_⟩
  have he : ∃ q, h'.get? a = some q := let ⟨q, _, _, hq, _⟩ := dd'; ⟨q, hq⟩
  have I' := d_write (t' := s.toks) I (by rw [ha]; exact True.intro) hs he (dk_new (Nat.le_trans (length_mergeK more kvs) hz) hd1 (KV.merge rel2 rel1) dd')
  exact ⟨.non, _, I', rfl, q⟩
/-- the value of e, a fresh dict (or list ..), locked from now on -/
theorem pe_frz {e : Expr} {t : TE} (h : PE X e t) : PE X e (fun σ H Q => t σ H fun x H1 => ∃ d u, x = .ref d ∧ H1 d = some u ∧ Mut (some u) ∧ ∀ od, Q (.ref d) (upd H1 d (.frz od u))) := by
  refine ⟨fun pins s σ H Q I hw => ?_⟩
  refine thn (h.run pins s σ H _ I hw) fun v s1 ⟨x, H1, I1, r, d, u, ex, hd, mu, q⟩ => ?_
  subst ex
  obtain ⟨od, I2⟩ := I1.lock hd mu
  exact ⟨_, _, I2, r, q od⟩
end
/-- a dict comprehension over a list that stays -/
theorem dc_list {K : PySem.W.Frag} {a : Addr} {xs : List V} {g : TG} {tt : TT} {tk tv : TE} {vs : List Nat} {σ : L2.St} {H1 : Hp} {D : Addr} {Qd : Hp → Prop} (Pv : Nat → Hp → Prop) (h0 : Pv 0 (upd H1 D (.dK []))) (hl : ∀ i H, i ≤ xs.length → Pv i H → SqL K H a xs)
    (hs : ∀ i x H, xs[i]? = some x → Pv i H → g x (wipe σ vs) H fun σ2 H2 => wipe σ2 vs = wipe σ vs ∧ tt σ2 H2 fun b H3 =>
      if b = true then tk σ2 H3 fun y H4 => tv σ2 H4 fun z H5 => ∃ kvs k, y = kV k ∧ H5 D = some (.dK kvs) ∧ kvs.length < sizeLine ∧ Pv (i + 1) (upd H5 D (.dK (putK kvs k z))) else Pv (i + 1) H3) (hd : ∀ H, Pv xs.length H → Qd H) :
    ∃ W : Nat → Nat → Hp → Prop, (∃ m, W 0 m (upd H1 D (.dK []))) ∧ ∀ i m H, W i m H →
      ((Itl K a).stop i H ∧ Qd H) ∨ ((Itl K a).go i H ∧ ∃ Nx : Hp → Prop, (∀ H', Nx H' → ∃ m', m' < m ∧ W (i + 1) m' H') ∧ ∀ x H', (Itl K a).yld i H x H' → g x (wipe σ vs) H' fun σ2 H2 => wipe σ2 vs = wipe σ vs ∧ tt σ2 H2 fun b H3 =>
        if b = true then tk σ2 H3 fun y H4 => tv σ2 H4 fun z H5 => ∃ kvs k, y = kV k ∧ H5 D = some (.dK kvs) ∧ kvs.length < sizeLine ∧ Nx (upd H5 D (.dK (putK kvs k z))) else Nx H3) := by
  refine ⟨fun i m H => m = xs.length - i ∧ i ≤ xs.length ∧ Pv i H, ⟨xs.length, by simp, Nat.zero_le _, h0⟩, ?_⟩
  rintro i m H ⟨rfl, hi, p⟩
  have q := hl i H hi p
  by_cases hlt : i < xs.length
  · refine .inr ⟨⟨xs, xs[i], q, by simp [hlt]⟩, Pv (i + 1), fun H' p' => ⟨xs.length - (i + 1), by omega, rfl, hlt, p'⟩, fun x H' y => ?_⟩
    obtain ⟨e, y⟩ := y
    subst e
    exact hs i x _ (y xs q) p
  · have e : i = xs.length := by omega
    subst e
    exact .inl ⟨⟨xs, q, Nat.le_refl _⟩, hd H p⟩
/-- a node is among the keys -/
def hasN (es : List (L2.Key × V)) (v : Nat) : Bool := (valV es (.inl (v : Int))).isSome
theorem hasN_put (es : List (L2.Key × V)) (v u : Nat) (y : V) : hasN (putK es (.inl (v : Int)) y) u = (decide (u = v) || hasN es u) := by
  unfold hasN
  rw [valV_put]
  by_cases h : u = v
  · subst h
    simp
  · have h2 : ¬ (Sum.inl (u : Int) : L2.Key) = Sum.inl (v : Int) := fun z => h (by have := Sum.inl.inj z; omega)
    rw [if_neg h2]
    simp [h]
theorem isSome_put (es : List (L2.Key × V)) (k j : L2.Key) (y : V) : (valV (putK es k y) j).isSome = (decide (j = k) || (valV es j).isSome) := by
  rw [valV_put]
  by_cases h : j = k
  · rw [if_pos h]
    simp [h]
  · rw [if_neg h]
    simp [h]
theorem isSome_merge : ∀ (more es : List (L2.Key × V)) (j : L2.Key), (valV (mergeK es more) j).isSome = ((valV more j).isSome || (valV es j).isSome)
  | [], es, j => by
    show (valV es j).isSome = ((none : Option V).isSome || (valV es j).isSome)
    simp
  | p :: r, es, j => by
    show (valV (mergeK (putK es p.1 p.2) r) j).isSome = _
    rw [isSome_merge r, isSome_put]
    by_cases h : p.1 = j
    · rw [valV_pos h]
      simp [h]
    · rw [valV_neg h]
      have h2 : ¬ j = p.1 := fun z => h z.symm
      simp [h2]
theorem hasN_merge (more es : List (L2.Key × V)) (v : Nat) : hasN (mergeK es more) v = (hasN more v || hasN es v) := isSome_merge more es _
end K29
namespace K29
open PySem PySem.Spec PyProof.Rows L2
section
variable {X : Cx}
theorem call_repr_bl : CallR X (.builtin "repr") (fun xs H Q => ∃ b, xs = [.bl b] ∧ Q (.str (if b then "True" else "False")) H) := by
  intro pins s σ H xs us Q I r h
  obtain ⟨b, rfl, q⟩ := h
  obtain ⟨u, rfl, ru⟩ := vals1 r
  obtain rfl : u = Value.bool b := ru
  exact PySem.P.repr_of_bool ⟨.str _, H, I.tok _, ⟨_, rfl⟩, q⟩
/-- sorted(()) -/
theorem cr_sortedT0 (K : PySem.W.Frag) (h : X.K = K := by rfl) : CallR X (.builtin "sorted") (fun xs H Q => ∃ a, xs = [.ref a] ∧ SqT K H a [] ∧ ∀ p, H p = none → Q (.ref p) (upd H p (.lst []))) := by
  subst h
  intro pins s σ H xs us Q I r q
  obtain ⟨a, ex, hT, q⟩ := q
  subst ex
  obtain ⟨u, eu, rx⟩ := vals1 r
  subst eu
  cases rx
  obtain ⟨its, rv, ⟨o, ho, hc, n, hd⟩, _⟩ := I.tuple hT
  cases rv
  refine Calls.call_function_entry PyProof.Rows.kind_sorted PyProof.Rows.plain_sorted PyProof.Rows.entry_sorted (PyProof.Rows.args_sorted1 _) ?_
  unfold Builtin.«sorted»
  refine wpAny_bind (m := checkCount "sorted" 1 1 _) (wpAny_pure ?_)
  refine wpAny_bind (wpAny_collect_seq (A := X.A.in1) a (.inr rfl) ho hc hd (fun h' hk => ?_) (Nat.zero_le _))
  have I1 : Inv X pins σ H { s with heap := h' } := I.kept (t' := s.toks) hk
  refine wpAny_bind (wpAny_newList ?_ (by rw [sizeLine_eq]; decide))
  have hoL : (h'.push (seqObj "list" ([] : List Value).toArray 0)).get? h'.objs.size = some (seqObj "list" ([] : List Value).toArray 0) := Heap.get?_push_size _ rfl
  show wpAny _ _ _ _ _ { s with heap := h'.push (seqObj "list" ([] : List Value).toArray 0) }
  refine wpAny_bind (wpAny_holding (wpAny_call_entry PyProof.Rows.slot_list_sort ⟨_, hoL, rfl⟩ PyProof.Rows.entry_list_sort
    (PyProof.Rows.list_sort_tree (s := { s with heap := h'.push (seqObj "list" ([] : List Value).toArray 0) }) hoL (IntsAre.nil) (by decide) fun out ys g1 g2 g3 => ⟨_, rfl, ?_⟩) (PyProof.Rows.args_list_sort _)))
  obtain ⟨e', he'⟩ := PyProof.Rows.sortedHeap_at (vs := ([] : List Value)) (out := out) hoL
  have ey : ys = [] := List.Perm.eq_nil g2
  subst ey
  refine wpAny_pure ⟨_, rfl, .ref h'.objs.size, upd H h'.objs.size (.lst []), I1.laid (t' := s.toks) (fun b u e => ?_) (Nat.le_refl _)
    (show ObjOk X.prog X.w _ _ _ (.lst []) from ⟨Nat.zero_le _, out.toList, e', vals_of_ints g1, by rw [Array.toArray_toList]; exact he'⟩), rfl, q _ (I1.hok.fresh (Nat.le_refl _))⟩
  have hb : b < h'.objs.size := Heap.lt_size e
  rw [PyProof.Rows.sortedHeap_old (Nat.ne_of_lt hb) (by rw [size_push']; exact Nat.lt_succ_of_lt hb)]
  exact Heap.get?_push_of_some _ e
end
end K29
namespace K29
open PySem PySem.Spec PyProof.Rows L2
/-- a comprehension over a list of told data that changes nothing -/
theorem lc_fP {β : Type} {K : PySem.W.Frag} {a : Addr} {xs : List V} {ys : List β} {Rl : V → β → Prop} {g : TG} {tt : TT} {te : TE} {vs : List Nat} {σ : L2.St} {H1 : Hp} {D : Addr} {Qd : Hp → Prop} (F : β → Option V) (hS : SqL K H1 a xs) (hP : Paired Rl xs ys) (hD : H1 D = none) (hz : xs.length ≤ sizeLine)
    (hs : ∀ (i : Nat) (x : V) (y : β) acc (R : VK) (N : Hp → Prop), xs[i]? = some x → ys[i]? = some y → Rl x y → (∀ z, F y = some z → R z (upd H1 D (.lst acc))) → (F y = none → N (upd H1 D (.lst acc))) →
      g x (wipe σ vs) (upd H1 D (.lst acc)) fun σ2 H2 => wipe σ2 vs = wipe σ vs ∧ tt σ2 H2 fun b H3 => if b = true then te σ2 H3 R else N H3)
    (hd : Qd (upd H1 D (.lst (ys.filterMap F)))) :
    ∃ W : Nat → Nat → Hp → Prop, (∃ m, W 0 m (upd H1 D (.lst []))) ∧ ∀ i m H, W i m H →
      ((Itl K a).stop i H ∧ Qd H) ∨ ((Itl K a).go i H ∧ ∃ Nx : Hp → Prop, (∀ H', Nx H' → ∃ m', m' < m ∧ W (i + 1) m' H') ∧ ∀ x H', (Itl K a).yld i H x H' → g x (wipe σ vs) H' fun σ2 H2 => wipe σ2 vs = wipe σ vs ∧ tt σ2 H2 fun b H3 =>
        if b = true then te σ2 H3 fun y H4 => ∃ acc, H4 D = some (.lst acc) ∧ acc.length < sizeLine ∧ Nx (upd H4 D (.lst (acc ++ [y]))) else Nx H3) := by
  have hl : xs.length = ys.length := Paired.length hP
  refine lc_list (xs := xs) (fun i H => H = upd H1 D (.lst ((ys.take i).filterMap F))) rfl (fun i H _ e => ?_) (fun i x H hx e => ?_) (fun H e => ?_)
  · rw [e]
    exact Same.seq (same_upd hD) hS
  · subst e
    obtain ⟨y, hy, hr⟩ := Paired.at' hP hx
    have hi : i < ys.length := (List.getElem?_eq_some_iff.mp hy).1
    have hl : ((ys.take i).filterMap F).length < sizeLine := Nat.lt_of_le_of_lt (List.length_filterMap_le F (ys.take i)) (by rw [List.length_take]; omega)
    refine hs i x y _ _ _ hx hy hr (fun z ez => ⟨_, upd_same, hl, ?_⟩) (fun en => ?_)
    · rw [upd_upd, take_fm F hy, ez] <;> rfl
    · rw [take_fm F hy, en]
      simp
  · rw [hl, List.take_length] at e
    rw [e]
    exact hd
def RowR (H : Hp) (v : V) (r : Nat × Nat × Int) : Prop := ∃ t, v = .ref t ∧ H t = some (.tup [nI r.1, nI r.2.1, .int r.2.2])
theorem RowR.mono {H H' : Hp} (e : Tups H H') {v : V} {r : Nat × Nat × Int} (h : RowR H v r) : RowR H' v r := by
  obtain ⟨t, q, z⟩ := h
  exact ⟨t, q, e _ _ z⟩
abbrev RowsAt (H : Hp) (a : Addr) (rows : List (Nat × Nat × Int)) : Prop := LstR (RowR H) H a rows
theorem RowsAt.same {H H' : Hp} {a : Addr} {rows : List (Nat × Nat × Int)} (h : RowsAt H a rows) (e : Same H H') : RowsAt H' a rows := by
  obtain ⟨vs, h1, h2⟩ := h
  exact ⟨vs, e _ _ h1, Paired.mapP h2 fun v x => RowR.mono (L2.Same.tups e)⟩
theorem row_at {rows : List (Nat × Nat × Int)} {i : Nat} (h : i < rows.length) : rows[i]? = some (rows.getD i (0, 0, 0)) := by simp [h]
theorem getD_set_ne {L : List Int} {i j : Nat} {x : Int} (h : i ≠ j) : (L.set i x).getD j 0 = L.getD j 0 := by
  rw [List.getD_eq_getElem?_getD, List.getElem?_set_ne h, ← List.getD_eq_getElem?_getD]
theorem getD_set_eq {L : List Int} {i : Nat} {x : Int} (h : i < L.length) : (L.set i x).getD i 0 = x := by
  rw [List.getD_eq_getElem?_getD, List.getElem?_set_self h] <;> rfl
theorem pairwise_take {α : Type} {R : α → α → Prop} {xs : List α} (h : xs.Pairwise R) {i : Nat} {x y : α} (hx : xs[i]? = some x) (hy : y ∈ xs.take i) : R y x := by
  have q := h.sublist (List.take_sublist (i + 1) xs)
  rw [List.take_add_one, hx] at q
  exact (List.pairwise_append.mp q).2.2 y hy x (List.mem_singleton.mpr rfl)
end K29
namespace K29
/-! ### the law's groups -/
def nset (a : List Nat) (t h : Nat) : List Nat := (a.set t (min (a.getD t 0) (a.getD h 0))).set h (min (a.getD t 0) (a.getD h 0))
def roundN (es : List (Nat × Nat)) (a : List Nat) : List Nat := es.foldl (fun a e => nset a e.1 e.2) a
def roundsN (es : List (Nat × Nat)) : Nat → List Nat → List Nat
  | 0, a => a
  | k + 1, a => roundN es (roundsN es k a)
def lawNames (n : Nat) (es : List (Nat × Nat)) : List Nat := roundsN es n (List.range n)
def groupOf (n : Nat) (a : List Nat) (f : Nat) : List Nat := (List.range n).filter fun v => a.getD v 0 == f
def lawGroups (n : Nat) (es : List (Nat × Nat)) : List (List Nat) := ((List.range n).filter fun f => (lawNames n es).any fun y => y == f).map (groupOf n (lawNames n es))
theorem nset_len (a : List Nat) (t h : Nat) : (nset a t h).length = a.length := by simp [nset]
theorem roundN_len (es : List (Nat × Nat)) : ∀ a : List Nat, (roundN es a).length = a.length := by
  induction es with
  | nil => intro a; rfl
  | cons e r ih =>
    intro a
    show (roundN r (nset a e.1 e.2)).length = _
    rw [ih, nset_len]
theorem roundsN_len (es : List (Nat × Nat)) (k : Nat) (a : List Nat) : (roundsN es k a).length = a.length := by
  induction k with
  | zero => rfl
  | succ k ih =>
    show (roundN es (roundsN es k a)).length = _
    rw [roundN_len, ih]
theorem roundN_take {es : List (Nat × Nat)} {i : Nat} {e : Nat × Nat} (h : es[i]? = some e) (a : List Nat) : roundN (es.take (i + 1)) a = nset (roundN (es.take i) a) e.1 e.2 := by
  unfold roundN
  rw [List.take_add_one, h, List.foldl_append]
  rfl
end K29
namespace K29
/-! ### the law's question -/
def wsum (w : List Int) (g : List Nat) : Int := (g.map fun v => w.getD v 0).sum
def aboveG (w p : List Int) (g : List Nat) : Int := wsum w (g.filter fun v => decide (0 < p.getD v 0))
def belowG (w p : List Int) (g : List Nat) : Int := wsum w (g.filter fun v => decide (p.getD v 0 < 0))
def absI (i : Int) : Int := if i < 0 then -i else i
def okG (w p : List Int) (g : List Nat) : Bool := !decide (wsum w g - aboveG w p g - belowG w p g < absI (aboveG w p g - belowG w p g))
def lowest (w p : List Int) (gs : List (List Nat)) : Bool := gs.all (okG w p)
theorem groups_lt {n : Nat} {es : List (Nat × Nat)} {g : List Nat} (h : g ∈ lawGroups n es) : ∀ v ∈ g, v < n := fun v hv => by
  obtain ⟨f, _, rfl⟩ := List.mem_map.mp h
  exact List.mem_range.mp (List.mem_filter.mp hv).1
theorem groups_len {n : Nat} {es : List (Nat × Nat)} : (lawGroups n es).length ≤ n := by
  unfold lawGroups
  rw [List.length_map]
  have := List.length_filter_le (fun f => (lawNames n es).any fun y => y == f) (List.range n)
  rw [List.length_range] at this
  exact this
theorem group_len {n : Nat} {es : List (Nat × Nat)} {g : List Nat} (h : g ∈ lawGroups n es) : g.length ≤ n := by
  obtain ⟨f, _, rfl⟩ := List.mem_map.mp h
  have := List.length_filter_le (fun v => (lawNames n es).getD v 0 == f) (List.range n)
  rw [List.length_range] at this
  exact this
end K29
namespace K29
/-! ### the forest -/
def fstep (s : List Nat × List Nat) (i : Nat) (e : Nat × Nat) : List Nat × List Nat :=
  if s.1.getD e.1 0 = s.1.getD e.2 0 then s else (s.1.map fun x => if x = s.1.getD e.2 0 then s.1.getD e.1 0 else x, s.2 ++ [i])
def fState (n : Nat) (es : List (Nat × Nat)) : Nat → List Nat × List Nat
  | 0 => (List.range n, [])
  | k + 1 => match es[k]? with
    | none => fState n es k
    | some e => fstep (fState n es k) k e
def forestN (n : Nat) (es : List (Nat × Nat)) : List Nat := (fState n es es.length).2
theorem fState_succ {n : Nat} {es : List (Nat × Nat)} {k : Nat} {e : Nat × Nat} (h : es[k]? = some e) : fState n es (k + 1) = fstep (fState n es k) k e := by
  show (match es[k]? with | none => fState n es k | some e => fstep (fState n es k) k e) = _
  rw [h]
theorem fstep_len (s : List Nat × List Nat) (i : Nat) (e : Nat × Nat) : (fstep s i e).1.length = s.1.length ∧ (fstep s i e).2.length ≤ s.2.length + 1 := by
  unfold fstep
  split
  · exact ⟨rfl, Nat.le_succ _⟩
  · exact ⟨List.length_map _, by rw [List.length_append]; exact Nat.le_refl _⟩
theorem fState_none {n : Nat} {es : List (Nat × Nat)} {k : Nat} (h : es[k]? = none) : fState n es (k + 1) = fState n es k := by
  show (match es[k]? with | none => fState n es k | some e => fstep (fState n es k) k e) = _
  rw [h]
theorem fState_len (n : Nat) (es : List (Nat × Nat)) (k : Nat) : (fState n es k).1.length = n ∧ (fState n es k).2.length ≤ k := by
  induction k with
  | zero => exact ⟨List.length_range, Nat.le_refl _⟩
  | succ k ih =>
    cases h : es[k]? with
    | none =>
      rw [fState_none h]
      exact ⟨ih.1, Nat.le_succ_of_le ih.2⟩
    | some e =>
      rw [fState_succ h]
      have q := fstep_len (fState n es k) k e
      exact ⟨q.1.trans ih.1, by have := ih.2; omega⟩
end K29
namespace K29
/-! ### the links -/
abbrev TripM := Nat × Int × Nat
def addL (ls : List (List TripM)) (v : Nat) (x : TripM) : List (List TripM) := ls.set v (ls.getD v [] ++ [x])
def lstep (es : List (Nat × Nat)) (ls : List (List TripM)) (i : Nat) : List (List TripM) := addL (addL ls (es.getD i (0, 0)).1 (i, 1, (es.getD i (0, 0)).2)) (es.getD i (0, 0)).2 (i, -1, (es.getD i (0, 0)).1)
def linksN (n : Nat) (es : List (Nat × Nat)) (fo : List Nat) : List (List TripM) := fo.foldl (lstep es) (List.replicate n [])
theorem addL_len (ls : List (List TripM)) (v : Nat) (x : TripM) : (addL ls v x).length = ls.length := List.length_set
theorem lstep_len (es : List (Nat × Nat)) (ls : List (List TripM)) (i : Nat) : (lstep es ls i).length = ls.length := by
  unfold lstep
  rw [addL_len, addL_len]
theorem foldl_take {α β : Type} (f : β → α → β) (b : β) {xs : List α} {i : Nat} {x : α} (h : xs[i]? = some x) : (xs.take (i + 1)).foldl f b = f ((xs.take i).foldl f b) x := by
  rw [List.take_add_one, h, List.foldl_append]
  rfl
/-- the sum of all lengths -/
def sumLen (ls : List (List TripM)) : Nat := (ls.map List.length).sum
theorem addL_each {ls : List (List TripM)} {v : Nat} {x : TripM} {b : Nat} (h : ∀ l ∈ ls, l.length ≤ b) : ∀ l ∈ addL ls v x, l.length ≤ b + 1 := fun l hl => by
  unfold addL at hl
  rcases List.mem_or_eq_of_mem_set hl with z | z
  · exact Nat.le_succ_of_le (h l z)
  · rw [z, List.length_append, List.length_singleton]
    by_cases hv : v < ls.length
    · have e : ls.getD v [] = ls[v] := by simp [hv]
      rw [e]
      have := h _ (List.getElem_mem hv)
      omega
    · have e : ls.getD v [] = [] := by simp [hv]
      rw [e]
      simp
end K29
namespace K29
/-! ### walks along the links -/
abbrev PathM := List (Nat × Int)
inductive WalkL (ls : List (List TripM)) : Nat → PathM → Nat → Prop where
  | nil (s : Nat) : WalkL ls s [] s
  | snoc {s u v i : Nat} {w : Int} {p : PathM} : WalkL ls s p u → (i, w, v) ∈ ls.getD u [] → WalkL ls s (p ++ [(i, w)]) v
/-- the paths found so far -/
structure BI (ls : List (List TripM)) (n s : Nat) (kvs : List (Nat × PathM)) : Prop where
  nd : (kvs.map (·.1)).Nodup
  st : s ∈ kvs.map (·.1)
  wk : ∀ x ∈ kvs, WalkL ls s x.2 x.1
  lt : ∀ x ∈ kvs, x.1 < n
  len : ∀ x ∈ kvs, x.2.length < kvs.length
abbrev ClosedU (ls : List (List TripM)) (kvs : List (Nat × PathM)) (u : Nat) : Prop := ∀ x ∈ ls.getD u [], x.2.2 ∈ kvs.map (·.1)
theorem BI.card {ls : List (List TripM)} {n s : Nat} {kvs : List (Nat × PathM)} (h : BI ls n s kvs) : kvs.length ≤ n := by
  have q := List.Nodup.length_le_of_subset (l₂ := List.range n) h.nd (fun v hv => by
    obtain ⟨x, hx, e⟩ := List.mem_map.mp hv
    rw [← e]
    exact List.mem_range.mpr (h.lt x hx))
  rw [List.length_map, List.length_range] at q
  exact q
theorem BI.one {ls : List (List TripM)} {n s : Nat} (h : s < n) : BI ls n s [(s, [])] :=
  ⟨by simp, by simp, fun x hx => by rw [List.mem_singleton.mp hx]; exact .nil s, fun x hx => by rw [List.mem_singleton.mp hx]; exact h, fun x hx => by rw [List.mem_singleton.mp hx]; exact Nat.zero_lt_one⟩
theorem BI.add {ls : List (List TripM)} {n s : Nat} {kvs : List (Nat × PathM)} (h : BI ls n s kvs) {u v i : Nat} {w : Int} {p : PathM} (hu : (u, p) ∈ kvs) (hl : (i, w, v) ∈ ls.getD u []) (hv : v ∉ kvs.map (·.1)) (hn : v < n) : BI ls n s (kvs ++ [(v, p ++ [(i, w)])]) := by
  refine ⟨?_, ?_, fun x hx => ?_, fun x hx => ?_, fun x hx => ?_⟩
  · rw [List.map_append]
    exact List.nodup_append.mpr ⟨h.nd, List.pairwise_singleton _ _, fun a ha b hb e => hv (by
      have hb2 : b = v := List.mem_singleton.mp hb
      rw [← hb2, ← e]
      exact ha)⟩
  · rw [List.map_append]
    exact List.mem_append_left _ h.st
  · rcases List.mem_append.mp hx with z | z
    · exact h.wk x z
    · rw [List.mem_singleton.mp z]
      exact .snoc (h.wk _ hu) hl
  · rcases List.mem_append.mp hx with z | z
    · exact h.lt x z
    · rw [List.mem_singleton.mp z]
      exact hn
  · rw [List.length_append, List.length_singleton]
    rcases List.mem_append.mp hx with z | z
    · exact Nat.lt_succ_of_lt (h.len x z)
    · rw [List.mem_singleton.mp z]
      show (p ++ [(i, w)]).length < _
      rw [List.length_append, List.length_singleton]
      exact Nat.succ_lt_succ (h.len _ hu)
theorem ClosedU.more {ls : List (List TripM)} {kvs : List (Nat × PathM)} {u : Nat} (h : ClosedU ls kvs u) (y : Nat × PathM) : ClosedU ls (kvs ++ [y]) u := fun x hx => by
  rw [List.map_append]
  exact List.mem_append_left _ (h x hx)
/-- all paths from s: every node that is found is closed -/
structure PathsOk (ls : List (List TripM)) (n s : Nat) (kvs : List (Nat × PathM)) : Prop where
  bi : BI ls n s kvs
  cl : ∀ u ∈ kvs.map (·.1), ClosedU ls kvs u
/-- links that lie within n nodes -/
structure LsOk (n : Nat) (ls : List (List TripM)) : Prop where
  len : ls.length = n
  lt : ∀ u, ∀ x ∈ ls.getD u [], x.2.2 < n
end K29
namespace K29
/-! ### what can be reached -/
def Reach (ls : List (List TripM)) (s v : Nat) : Prop := ∃ p, WalkL ls s p v
theorem PathsOk.mem {ls : List (List TripM)} {n s : Nat} {kvs : List (Nat × PathM)} (h : PathsOk ls n s kvs) {v : Nat} : v ∈ kvs.map (·.1) ↔ Reach ls s v := by
  constructor
  · intro hv
    obtain ⟨x, hx, e⟩ := List.mem_map.mp hv
    exact ⟨x.2, by rw [← e]; exact h.bi.wk x hx⟩
  · rintro ⟨p, hp⟩
    have go : ∀ {p : PathM} {v : Nat}, WalkL ls s p v → v ∈ kvs.map (·.1) := fun {p v} w => by
      induction w with
      | nil => exact h.bi.st
      | snoc _ hm ih => exact h.cl _ ih _ hm
    exact go hp
/-- a link back for each link -/
def SymL (ls : List (List TripM)) : Prop := ∀ u, ∀ x ∈ ls.getD u [], ∃ y ∈ ls.getD x.2.2 [], y.2.2 = u
theorem Reach.refl (ls : List (List TripM)) (s : Nat) : Reach ls s s := ⟨[], .nil s⟩
theorem Reach.step {ls : List (List TripM)} {s u : Nat} (h : Reach ls s u) {x : TripM} (hx : x ∈ ls.getD u []) : Reach ls s x.2.2 := by
  obtain ⟨p, hp⟩ := h
  exact ⟨p ++ [(x.1, x.2.1)], .snoc hp hx⟩
theorem Reach.trans {ls : List (List TripM)} {a b c : Nat} (h : Reach ls a b) (h2 : Reach ls b c) : Reach ls a c := by
  obtain ⟨p, hp⟩ := h2
  induction hp with
  | nil => exact h
  | snoc _ hm ih => exact ih.step hm
theorem Reach.symm {ls : List (List TripM)} (sy : SymL ls) {a b : Nat} (h : Reach ls a b) : Reach ls b a := by
  obtain ⟨p, hp⟩ := h
  induction hp with
  | nil => exact .refl ls _
  | snoc _ hm ih =>
    obtain ⟨y, hy, e⟩ := sy _ _ hm
    have z : Reach ls _ y.2.2 := (Reach.refl ls _).step hy
    rw [e] at z
    exact z.trans ih
theorem Reach.lt {ls : List (List TripM)} {n s v : Nat} (h : LsOk n ls) (hs : s < n) (r : Reach ls s v) : v < n := by
  obtain ⟨p, hp⟩ := r
  cases hp with
  | nil => exact hs
  | snoc _ hm => exact h.lt _ _ hm
/-- the groups of the links: whole classes, apart from one another, all nodes -/
structure Comps (ls : List (List TripM)) (n : Nat) (gs : List (List Nat)) : Prop where
  ne : ∀ g ∈ gs, g ≠ []
  nd : ∀ g ∈ gs, g.Nodup
  cls : ∀ g ∈ gs, ∀ u ∈ g, ∀ v, v ∈ g ↔ Reach ls u v
  lt : ∀ g ∈ gs, ∀ u ∈ g, u < n
  cov : ∀ v, v < n → ∃ g ∈ gs, v ∈ g
  dis : gs.Pairwise fun a b => ∀ v ∈ a, v ∉ b
end K29
namespace K29
/-! ### a system -/
abbrev RowM := Nat × Nat × Int
structure SysOk (n : Nat) (rows : List RowM) (P : Nat → Int) (ls : List (List TripM)) (gs : List (List Nat)) : Prop where
  n12 : n ≤ 12
  len : rows.length ≤ 18
  lt : ∀ r ∈ rows, r.1 < n ∧ r.2.1 < n
  pot : ∀ r ∈ rows, r.2.2 = P r.1 - P r.2.1
  ok : LsOk n ls
  co : Comps ls n gs
  lnk : ∀ u, ∀ x ∈ ls.getD u [], x.1 < rows.length ∧ ((x.2.1 = 1 ∧ (rows.getD x.1 (0, 0, 0)).1 = u ∧ (rows.getD x.1 (0, 0, 0)).2.1 = x.2.2) ∨ (x.2.1 = -1 ∧ (rows.getD x.1 (0, 0, 0)).1 = x.2.2 ∧ (rows.getD x.1 (0, 0, 0)).2.1 = u))
  con : ∀ r ∈ rows, Reach ls r.1 r.2.1
def stepD (rows : List RowM) (x : Nat × Int) : Int := x.2 * (rows.getD x.1 (0, 0, 0)).2.2
def pathD (rows : List RowM) (p : PathM) : Int := (p.map (stepD rows)).sum
theorem SysOk.pathSum {n : Nat} {rows : List RowM} {P : Nat → Int} {ls : List (List TripM)} {gs : List (List Nat)} (h : SysOk n rows P ls gs) {s v : Nat} {p : PathM} (w : WalkL ls s p v) : pathD rows p = P s - P v ∧ ∀ x ∈ p, x.1 < rows.length ∧ (x.2 = 1 ∨ x.2 = -1) := by
  induction w with
  | nil => exact ⟨by show (0 : Int) = _; omega, fun x hx => by cases hx⟩
  | @snoc u v i w p _ hm ih =>
    obtain ⟨h1, h2⟩ := ih
    obtain ⟨l1, l2⟩ := h.lnk u _ hm
    have hr : rows.getD i (0, 0, 0) ∈ rows := by
      have l1 : i < rows.length := l1
      rw [show rows.getD i (0, 0, 0) = rows[i] by simp [l1]]
      exact List.getElem_mem _
    have hp := h.pot _ hr
    refine ⟨?_, fun x hx => ?_⟩
    · unfold pathD at h1 ⊢
      rw [List.map_append, List.sum_append, h1]
      show P s - P u + (w * (rows.getD i (0, 0, 0)).2.2 + 0) = _
      rcases l2 with ⟨e1, e2, e3⟩ | ⟨e1, e2, e3⟩
      · have e1 : w = 1 := e1
        have e2 : (rows.getD i (0, 0, 0)).1 = u := e2
        have e3 : (rows.getD i (0, 0, 0)).2.1 = v := e3
        rw [hp, e1, e2, e3]
        omega
      · have e1 : w = -1 := e1
        have e2 : (rows.getD i (0, 0, 0)).1 = v := e2
        have e3 : (rows.getD i (0, 0, 0)).2.1 = u := e3
        rw [hp, e1, e2, e3]
        omega
    · rcases List.mem_append.mp hx with z | z
      · exact h2 x z
      · rw [List.mem_singleton.mp z]
        exact ⟨l1, l2.elim (fun q => .inl q.1) (fun q => .inr q.1)⟩
/-- what levels() gives: the potential, 0 at each group's first node -/
structure LevOk (n : Nat) (gs : List (List Nat)) (P : Nat → Int) (L : List Int) : Prop where
  len : L.length = n
  val : ∀ g ∈ gs, ∀ v ∈ g, L.getD v 0 = P v - P (g.getD 0 0)
end K29
namespace K29
/-! ### the links of the forest join what the edges join -/
abbrev edN (es : List (Nat × Nat)) (i : Nat) : Nat × Nat := es.getD i (0, 0)
abbrev EdOk (n : Nat) (es : List (Nat × Nat)) : Prop := ∀ e ∈ es, e.1 < n ∧ e.2 < n
theorem edN_at {es : List (Nat × Nat)} {i : Nat} (h : i < es.length) : es[i]? = some (edN es i) := by simp [edN, h]
theorem edN_mem {es : List (Nat × Nat)} {i : Nat} (h : i < es.length) : edN es i ∈ es := List.mem_of_getElem? (edN_at h)
theorem addL_mem {ls : List (List TripM)} {v u : Nat} {x y : TripM} (hv : v < ls.length) : y ∈ (addL ls v x).getD u [] ↔ y ∈ ls.getD u [] ∨ (u = v ∧ y = x) := by
  unfold addL
  by_cases h : v = u
  · subst h
    rw [List.getD_eq_getElem?_getD, List.getElem?_set_self hv]
    show y ∈ ls.getD v [] ++ [x] ↔ _
    rw [List.mem_append, List.mem_singleton]
    constructor
    · rintro (z | z)
      · exact .inl z
      · exact .inr ⟨rfl, z⟩
    · rintro (z | ⟨_, z⟩)
      · exact .inl z
      · exact .inr z
  · rw [List.getD_eq_getElem?_getD, List.getElem?_set_ne h, ← List.getD_eq_getElem?_getD]
    constructor
    · exact fun z => .inl z
    · rintro (z | ⟨z, _⟩)
      · exact z
      · exact absurd z.symm h
abbrev IsLink (es : List (Nat × Nat)) (fo : List Nat) (u : Nat) (y : TripM) : Prop := ∃ i ∈ fo, (u = (edN es i).1 ∧ y = (i, 1, (edN es i).2)) ∨ (u = (edN es i).2 ∧ y = (i, -1, (edN es i).1))
theorem links_mem_go {n : Nat} {es : List (Nat × Nat)} {u : Nat} {y : TripM} : ∀ (fo : List Nat) (ls : List (List TripM)), ls.length = n → (∀ i ∈ fo, (edN es i).1 < n ∧ (edN es i).2 < n) → (y ∈ (fo.foldl (lstep es) ls).getD u [] ↔ y ∈ ls.getD u [] ∨ IsLink es fo u y)
  | [], ls, _, _ => by
    constructor
    · exact fun z => .inl z
    · rintro (z | ⟨i, hi, _⟩)
      · exact z
      · cases hi
  | i :: fo, ls, hl, hf => by
    obtain ⟨h1, h2⟩ := hf i List.mem_cons_self
    rw [List.foldl_cons, links_mem_go fo (lstep es ls i) (by rw [lstep_len]; exact hl) (fun j hj => hf j (List.mem_cons_of_mem _ hj))]
    unfold lstep
    rw [addL_mem (by rw [addL_len, hl]; exact h2), addL_mem (by rw [hl]; exact h1)]
    constructor
    · rintro (((z | ⟨a, b⟩) | ⟨a, b⟩) | ⟨j, hj, z⟩)
      · exact .inl z
      · exact .inr ⟨i, List.mem_cons_self, .inl ⟨a, b⟩⟩
      · exact .inr ⟨i, List.mem_cons_self, .inr ⟨a, b⟩⟩
      · exact .inr ⟨j, List.mem_cons_of_mem _ hj, z⟩
    · rintro (z | ⟨j, hj, z⟩)
      · exact .inl (.inl (.inl z))
      · rcases List.mem_cons.mp hj with e | e
        · subst e
          rcases z with ⟨a, b⟩ | ⟨a, b⟩
          · exact .inl (.inl (.inr ⟨a, b⟩))
          · exact .inl (.inr ⟨a, b⟩)
        · exact .inr ⟨j, e, z⟩
theorem links_mem {n : Nat} {es : List (Nat × Nat)} {fo : List Nat} (hf : ∀ i ∈ fo, (edN es i).1 < n ∧ (edN es i).2 < n) {u : Nat} {y : TripM} : y ∈ (linksN n es fo).getD u [] ↔ IsLink es fo u y := by
  unfold linksN
  rw [links_mem_go fo _ List.length_replicate hf]
  have e : (List.replicate n ([] : List TripM)).getD u [] = [] := by
    rw [List.getD_eq_getElem?_getD, List.getElem?_replicate]
    split <;> rfl
  rw [e]
  constructor
  · rintro (z | z)
    · cases z
    · exact z
  · exact fun z => .inr z
theorem forest_lt {n : Nat} {es : List (Nat × Nat)} : ∀ k, ∀ i ∈ (fState n es k).2, i < k ∧ i < es.length
  | 0, i, h => by cases h
  | k + 1, i, h => by
    cases e : es[k]? with
    | none =>
      rw [fState_none e] at h
      have := forest_lt k i h
      omega
    | some x =>
      rw [fState_succ e] at h
      have hk := (List.getElem?_eq_some_iff.mp e).1
      unfold fstep at h
      split at h
      · have := forest_lt k i h
        omega
      · rcases List.mem_append.mp h with z | z
        · have := forest_lt k i z
          omega
        · rw [List.mem_singleton.mp z]
          omega
theorem fo_ok {n : Nat} {es : List (Nat × Nat)} (hes : EdOk n es) {fo : List Nat} (h : ∀ i ∈ fo, i < es.length) : ∀ i ∈ fo, (edN es i).1 < n ∧ (edN es i).2 < n := fun i hi => hes _ (edN_mem (h i hi))
theorem lsOk_of {n : Nat} {es : List (Nat × Nat)} (hes : EdOk n es) {fo : List Nat} (h : ∀ i ∈ fo, i < es.length) : LsOk n (linksN n es fo) := by
  have hf := fo_ok hes h
  refine ⟨?_, fun u x hx => ?_⟩
  · have : ∀ (fo : List Nat) (ls : List (List TripM)), (fo.foldl (lstep es) ls).length = ls.length := fun fo => by
      induction fo with
      | nil => intro ls; rfl
      | cons x r ih => intro ls; rw [List.foldl_cons, ih, lstep_len]
    unfold linksN
    rw [this, List.length_replicate]
  · obtain ⟨i, hi, ⟨_, rfl⟩ | ⟨_, rfl⟩⟩ := (links_mem hf).mp hx
    · exact (hf i hi).2
    · exact (hf i hi).1
theorem symL_of {n : Nat} {es : List (Nat × Nat)} (hes : EdOk n es) {fo : List Nat} (h : ∀ i ∈ fo, i < es.length) : SymL (linksN n es fo) := by
  have hf := fo_ok hes h
  intro u x hx
  obtain ⟨i, hi, ⟨e1, rfl⟩ | ⟨e1, rfl⟩⟩ := (links_mem hf).mp hx
  · exact ⟨(i, -1, (edN es i).1), (links_mem hf).mpr ⟨i, hi, .inr ⟨rfl, rfl⟩⟩, e1.symm⟩
  · exact ⟨(i, 1, (edN es i).2), (links_mem hf).mpr ⟨i, hi, .inl ⟨rfl, rfl⟩⟩, e1.symm⟩
theorem WalkL.mono {ls ls' : List (List TripM)} (h : ∀ u, ∀ x ∈ ls.getD u [], x ∈ ls'.getD u []) {s v : Nat} {p : PathM} (w : WalkL ls s p v) : WalkL ls' s p v := by
  induction w with
  | nil => exact .nil _
  | snoc _ hm ih => exact .snoc ih (h _ _ hm)
theorem forest_con {n : Nat} {es : List (Nat × Nat)} (hes : EdOk n es) : ∀ k, k ≤ es.length → (∀ u v, u < n → v < n → (fState n es k).1.getD u 0 = (fState n es k).1.getD v 0 → Reach (linksN n es (fState n es k).2) u v) ∧ ∀ i, i < k → (fState n es k).1.getD (edN es i).1 0 = (fState n es k).1.getD (edN es i).2 0
  | 0, _ => by
    refine ⟨fun u v hu hv h => ?_, fun i hi => absurd hi (Nat.not_lt_zero i)⟩
    have e : ∀ w, w < n → (fState n es 0).1.getD w 0 = w := fun w hw => by
      show (List.range n).getD w 0 = w
      simp [hw]
    rw [e u hu, e v hv] at h
    rw [h]
    exact .refl _ v
  | k + 1, hk => by
    obtain ⟨h1, h2⟩ := forest_con hes k (by omega)
    have hkl : k < es.length := hk
    have ek := edN_at hkl
    obtain ⟨a1, a2⟩ := hes _ (edN_mem hkl)
    have lt1 : ∀ i ∈ (fState n es k).2, i < es.length := fun i hi => (forest_lt k i hi).2
    have lt2 : ∀ i ∈ (fState n es k).2 ++ [k], i < es.length := fun i hi => by
      rcases List.mem_append.mp hi with z | z
      · exact lt1 i z
      · rw [List.mem_singleton.mp z]
        exact hkl
    have hlen := (fState_len n es k).1
    rw [fState_succ ek]
    unfold fstep
    split
    · rename_i q
      refine ⟨h1, fun i hi => ?_⟩
      by_cases e : i = k
      · rw [e]
        exact q
      · exact h2 i (by omega)
    · rename_i q
      have gm : ∀ w, w < n → ((fState n es k).1.map fun x => if x = (fState n es k).1.getD (edN es k).2 0 then (fState n es k).1.getD (edN es k).1 0 else x).getD w 0 = if (fState n es k).1.getD w 0 = (fState n es k).1.getD (edN es k).2 0 then (fState n es k).1.getD (edN es k).1 0 else (fState n es k).1.getD w 0 := fun w hw => by
        simp [hlen, hw]
      have up : ∀ {u v}, Reach (linksN n es (fState n es k).2) u v → Reach (linksN n es ((fState n es k).2 ++ [k])) u v := fun {u v} ⟨p, w⟩ => ⟨p, w.mono fun u x hx => by
        obtain ⟨i, hi, z⟩ := (links_mem (fo_ok hes lt1)).mp hx
        exact (links_mem (fo_ok hes lt2)).mpr ⟨i, List.mem_append_left _ hi, z⟩⟩
      have sy := symL_of hes lt2
      have new : Reach (linksN n es ((fState n es k).2 ++ [k])) (edN es k).1 (edN es k).2 := by
        have z : (k, 1, (edN es k).2) ∈ (linksN n es ((fState n es k).2 ++ [k])).getD (edN es k).1 [] := (links_mem (fo_ok hes lt2)).mpr ⟨k, List.mem_append_right _ (List.mem_singleton.mpr rfl), .inl ⟨rfl, rfl⟩⟩
        exact (Reach.refl _ _).step z
      refine ⟨fun u v hu hv h => ?_, fun i hi => ?_⟩
      · have h : ((fState n es k).1.map fun x => if x = (fState n es k).1.getD (edN es k).2 0 then (fState n es k).1.getD (edN es k).1 0 else x).getD u 0 = ((fState n es k).1.map fun x => if x = (fState n es k).1.getD (edN es k).2 0 then (fState n es k).1.getD (edN es k).1 0 else x).getD v 0 := h
        rw [gm u hu, gm v hv] at h
        by_cases c1 : (fState n es k).1.getD u 0 = (fState n es k).1.getD (edN es k).2 0
        · by_cases c2 : (fState n es k).1.getD v 0 = (fState n es k).1.getD (edN es k).2 0
          · exact up (h1 u v hu hv (c1.trans c2.symm))
          · rw [if_pos c1, if_neg c2] at h
            exact ((up (h1 u _ hu a2 c1)).trans (new.symm sy)).trans (up (h1 _ v a1 hv h))
        · by_cases c2 : (fState n es k).1.getD v 0 = (fState n es k).1.getD (edN es k).2 0
          · rw [if_neg c1, if_pos c2] at h
            exact ((up (h1 u _ hu a1 h)).trans new).trans (up (h1 _ v a2 hv c2.symm))
          · rw [if_neg c1, if_neg c2] at h
            exact up (h1 u v hu hv h)
      · show ((fState n es k).1.map fun x => if x = (fState n es k).1.getD (edN es k).2 0 then (fState n es k).1.getD (edN es k).1 0 else x).getD (edN es i).1 0 = ((fState n es k).1.map fun x => if x = (fState n es k).1.getD (edN es k).2 0 then (fState n es k).1.getD (edN es k).1 0 else x).getD (edN es i).2 0
        obtain ⟨b1, b2⟩ := hes _ (edN_mem (show i < es.length by omega))
        rw [gm _ b1, gm _ b2]
        by_cases e : i = k
        · rw [e, if_neg q, if_pos rfl]
        · rw [h2 i (by omega)]
theorem forestN_lt {n : Nat} {es : List (Nat × Nat)} : ∀ i ∈ forestN n es, i < es.length := fun i hi => (forest_lt es.length i hi).2
theorem forestN_con {n : Nat} {es : List (Nat × Nat)} (hes : EdOk n es) : ∀ e ∈ es, Reach (linksN n es (forestN n es)) e.1 e.2 := fun e he => by
  obtain ⟨h1, h2⟩ := forest_con hes es.length (Nat.le_refl _)
  obtain ⟨i, hi⟩ := List.mem_iff_getElem?.mp he
  have hl := (List.getElem?_eq_some_iff.mp hi).1
  have ee : edN es i = e := by
    have := edN_at hl
    rw [hi] at this
    exact (Option.some.inj this).symm
  have q := h2 i hl
  rw [ee] at q
  exact h1 e.1 e.2 (hes e he).1 (hes e he).2 q
/-! ### being joined by edges -/
inductive Conn (es : List (Nat × Nat)) (a : Nat) : Nat → Prop where
  | refl : Conn es a a
  | fwd {e : Nat × Nat} : e ∈ es → Conn es a e.1 → Conn es a e.2
  | bwd {e : Nat × Nat} : e ∈ es → Conn es a e.2 → Conn es a e.1
theorem Conn.trans {es : List (Nat × Nat)} {a b c : Nat} (h : Conn es a b) (h2 : Conn es b c) : Conn es a c := by
  induction h2 with
  | refl => exact h
  | fwd he _ ih => exact .fwd he ih
  | bwd he _ ih => exact .bwd he ih
theorem Conn.symm {es : List (Nat × Nat)} {a b : Nat} (h : Conn es a b) : Conn es b a := by
  induction h with
  | refl => exact .refl
  | fwd he _ ih => exact (Conn.bwd he .refl).trans ih
  | bwd he _ ih => exact (Conn.fwd he .refl).trans ih
theorem reach_conn {n : Nat} {es : List (Nat × Nat)} (hes : EdOk n es) {u v : Nat} : Reach (linksN n es (forestN n es)) u v ↔ Conn es u v := by
  have hf := fo_ok hes (forestN_lt (n := n) (es := es))
  constructor
  · rintro ⟨p, w⟩
    induction w with
    | nil => exact .refl
    | snoc _ hm ih =>
      obtain ⟨i, hi, ⟨e1, e2⟩ | ⟨e1, e2⟩⟩ := (links_mem hf).mp hm
      · have z := edN_mem (forestN_lt i hi)
        injection e2 with _ e3
        injection e3 with _ e4
        rw [e4]
        rw [e1] at ih
        exact .fwd z ih
      · have z := edN_mem (forestN_lt i hi)
        injection e2 with _ e3
        injection e3 with _ e4
        rw [e4]
        rw [e1] at ih
        exact .bwd z ih
  · intro c
    induction c with
    | refl => exact .refl _ u
    | fwd he _ ih => exact ih.trans (forestN_con hes _ he)
    | bwd he _ ih => exact ih.trans ((forestN_con hes _ he).symm (symL_of hes forestN_lt))
/-! ### rows -/
abbrev esOf (rows : List RowM) : List (Nat × Nat) := rows.map fun r => (r.1, r.2.1)
theorem esOf_at (rows : List RowM) (i : Nat) : edN (esOf rows) i = ((rows.getD i (0, 0, 0)).1, (rows.getD i (0, 0, 0)).2.1) := by
  unfold edN esOf
  rw [List.getD_eq_getElem?_getD, List.getElem?_map, List.getD_eq_getElem?_getD]
  cases rows[i]? <;> rfl
theorem sysOk_of {n : Nat} {rows : List RowM} {P : Nat → Int} {gs : List (List Nat)} (hn : n ≤ 12) (hl : rows.length ≤ 18) (lt : ∀ r ∈ rows, r.1 < n ∧ r.2.1 < n) (pot : ∀ r ∈ rows, r.2.2 = P r.1 - P r.2.1) (co : Comps (linksN n (esOf rows) (forestN n (esOf rows))) n gs) :
    SysOk n rows P (linksN n (esOf rows) (forestN n (esOf rows))) gs := by
  have hes : EdOk n (esOf rows) := fun e he => by
    obtain ⟨r, hr, rfl⟩ := List.mem_map.mp he
    exact lt r hr
  have hf := fo_ok hes (forestN_lt (n := n) (es := esOf rows))
  refine ⟨hn, hl, lt, pot, lsOk_of hes forestN_lt, co, fun u x hx => ?_, fun r hr => ?_⟩
  · obtain ⟨i, hi, z⟩ := (links_mem hf).mp hx
    have il := forestN_lt i hi
    rw [List.length_map] at il
    rw [esOf_at] at z
    rcases z with ⟨e1, rfl⟩ | ⟨e1, rfl⟩
    · exact ⟨il, .inl ⟨rfl, e1.symm, rfl⟩⟩
    · exact ⟨il, .inr ⟨rfl, rfl, e1.symm⟩⟩
  · exact forestN_con hes (r.1, r.2.1) (List.mem_map.mpr ⟨r, hr, rfl⟩)
end K29
namespace K29
open PySem PySem.Spec PyProof.Rows L2 LamX NdefX
/-! ### lambdas with parameters -/
/-- the object at f is the lambda of F's words, b its body -/
def LamO (f : Addr) (F : NF) (b : Expr) : HO := .ext fun h => ∃ (od : Option Addr) (sl : Array (Option Value)) (pm ctv : Value), h.get? f = some (⟨.type "function", od, .func (PySem.W.kla_fn "<lambda>" F.qual F.params b F.scope F.cl pm (.ref F.c) ctv), sl⟩ : Obj)
theorem lamO_at {P : Program} {w : World} {H : Hp} {h : Heap} {f : Addr} {F : NF} {b : Expr} (hok : HOk P w H h) (e : H f = some (LamO f F b)) : ∃ (od : Option Addr) (sl : Array (Option Value)) (pm ctv : Value), h.get? f = some (⟨.type "function", od, .func (PySem.W.kla_fn "<lambda>" F.qual F.params b F.scope F.cl pm (.ref F.c) ctv), sl⟩ : Obj) := by
  obtain ⟨z, _, _⟩ := hok f _ e
  exact z
section
variable {X : Cx} {pins : List (Addr × Obj)} {σ : L2.St} {H : Hp} {s : Shared}
theorem lam_at {f : Addr} {F : NF} {b : Expr} (I : Inv X pins σ H s) (e : H f = some (LamO f F b)) : PySem.W.FnAt f s.heap := by
  obtain ⟨od, sl, pm, ctv, ho⟩ := lamO_at I.hok e
  exact ⟨_, od, _, sl, ho⟩
theorem inv_lam {F : NF} {b : Expr} {o : Obj} {t' : Nat} {pm ctv : Value} (I : Inv X pins σ H s) (ho : o = PySem.W.kla_obj "<lambda>" F.qual F.params b F.scope F.cl pm F.c ctv) :
    Inv X pins σ (upd H s.heap.objs.size (LamO s.heap.objs.size F b)) { s with heap := s.heap.push o, toks := t' } := by
  subst ho
  refine I.laid (a := s.heap.objs.size) (fun b u e => Heap.get?_push_of_some _ e) (Nat.le_refl _) ?_
  have e : (s.heap.push (PySem.W.kla_obj "<lambda>" F.qual F.params b F.scope F.cl pm F.c ctv)).get? s.heap.objs.size = some (PySem.W.kla_obj "<lambda>" F.qual F.params b F.scope F.cl pm F.c ctv) := Heap.get?_push_size _ rfl
  exact ⟨⟨_, _, pm, ctv, e⟩, ⟨_, e⟩, fun h1 h2 ⟨od, sl, p, t, z⟩ st => ⟨od, sl, p, t, st _ z⟩⟩
/-- the lambda's object is made: its code object is new, or found in the table -/
theorem lam_make3 {T : List NTab} {nm : Nat → Nat → Str} {c P : Addr} {params : Arguments} {body : Expr} {scope : Scope} {pos : Pos} {E : Value → Shared → Prop} {Q : Value → Shared → Prop} (I : Inv X pins σ H s) (TB : TabB X.base X.mg c P) (hcode : X.env.code = .ref c)
    (hm : (P, nm) ∈ T) (hn : nm pos.line pos.col = X.env.qual ++ "<lambda>") (hu : ∀ p ∈ T, p.1 = P → p.2 = nm) (hT : TabsN T H) (hdef : defaultsOf params X.env = ([], [])) (hfree : ∀ y ∈ scope.names, y.2 = .free → ∃ c, X.env.cells.lookup y.1 = some c)
    (h : ∀ (f c' : Addr) (H1 : Hp) (s' : Shared), Inv X pins σ H1 s' → ExtN H H1 → (∀ b, H1 b = Option.none → H b = Option.none) → TabsN T H1 → H f = none → H1 f = some (LamO f ⟨"<lambda>", X.env.qual ++ "<lambda>", params, [], scope, cloFrom X.env.cells scope.names [], c'⟩ body) → H1 c' = some (CodeO c' (X.env.qual ++ "<lambda>")) → Q (.ref f) s') :
    wpAny (model X.prog X.w) X.A (eval (.Lambda params body scope pos) X.env) Q E s := by
  obtain ⟨ps, hP, ht, ha⟩ := (show TabN H P nm from hT _ hm)
  refine PySem.W.kla_eval hdef ?_
  have bP : s.heap.BuiltinsAt X.mg P := TB.bm.keeps I.bk
  have hP' : s.heap.get? P = some { cls := .none, data := .fields ps } := I.hok P _ hP
  cases hc : codeAmong pos ps.toList with
  | none =>
    refine PySem.W.kla_makeFunction (mg := X.mg) (c := c) (P := P) (ps := ps) (closure_ok hfree) I.ok.glob (I.mod.glob.keeps I.bk) hcode (TB.code.keeps I.bk) hP' ht hc TB.gP bP fun c' ctv h' tk hx hge hlt hrec htb => ?_
    obtain ⟨c2, oc, vs, t, e2, hoc, hd, hv⟩ := hrec
    cases e2
    have nC : H c' = none := I.hok.fresh hge
    have I1 := inv_table (t' := tk) (more := #[rawInt pos.line, rawInt pos.col, .ref c']) (h' := h') I hP (fun b o hb e => hx b o hb e) htb hge ⟨oc, vs, t, hoc, hd, hv⟩
    have hE : ExtN H (upd (upd H P (.tbl (ps ++ #[rawInt pos.line, rawInt pos.col, .ref c']))) c' (CodeO c' (X.env.qual ++ "<lambda>"))) := fun b o e n => by
      rw [upd_ne (ne_of_none e nC), upd_ne (fun z => n ps (Option.some.inj (e.symm.trans (by rw [z]; exact hP))))]
      exact e
    have eL : (ps ++ #[rawInt pos.line, rawInt pos.col, .ref c']).toList = ps.toList ++ [rawInt pos.line, rawInt pos.col, .ref c'] := by simp
    have T1 : TabsN T (upd (upd H P (.tbl (ps ++ #[rawInt pos.line, rawInt pos.col, .ref c']))) c' (CodeO c' (X.env.qual ++ "<lambda>"))) := fun p hp => by
      by_cases hb : p.1 = P
      · rw [hu p hp hb, hb]
        refine ⟨_, by rw [upd_ne (ne_of_none hP nC), upd_same], by rw [eL]; exact PySem.TriplesOk_snoc _ _ _ _ ht, fun p' cv hcv => ?_⟩
        rw [eL] at hcv
        rcases among_app2 _ ht hcv with z | ⟨z, z1, z2⟩
        · obtain ⟨c0, e1, e2⟩ := ha p' cv z
          exact ⟨c0, e1, hE _ _ e2 codeO_ne⟩
        · refine ⟨c', z, ?_⟩
          rw [← z1, ← z2, hn]
          exact upd_same
      · obtain ⟨ps', a1, a2, a3⟩ := hT p hp
        refine ⟨ps', by rw [upd_ne (ne_of_none a1 nC), upd_ne hb]; exact a1, a2, fun p' cv hcv => ?_⟩
        obtain ⟨c0, e1, e2⟩ := a3 p' cv hcv
        exact ⟨c0, e1, hE _ _ e2 codeO_ne⟩
    have nF := I1.hok.fresh (Nat.le_refl _)
    have I2 := inv_lam (F := ⟨"<lambda>", X.env.qual ++ "<lambda>", params, [], scope, cloFrom X.env.cells scope.names [], c'⟩) (b := body) (t' := tk) (pm := (X.mg "__name__").getD .none) (ctv := ctv) I1 rfl
    refine h h'.objs.size c' _ _ I2 (fun b o e n => ?_) (fun b e => NdefX.upd_none (NdefX.upd_none (NdefX.upd_none e))) (T1.ext fun b o e => ?_) (I.hok.fresh (Nat.le_trans hge (Nat.le_of_lt hlt))) upd_same ?_
    · have e1 := hE b o e n
      exact (upd_ne (ne_of_none e1 nF)).trans e1
    · exact (upd_ne (ne_of_none e nF)).trans e
    · exact (upd_ne (Nat.ne_of_lt hlt)).trans upd_same
  | some cv =>
    obtain ⟨c', e, hco⟩ := ha pos cv hc
    subst e
    rw [hn] at hco
    refine PySem.W.kla_makeFunctionHit (mg := X.mg) (c := c) (P := P) (ps := ps) (closure_ok hfree) I.ok.glob (I.mod.glob.keeps I.bk) hcode (TB.code.keeps I.bk) hP' ht hc bP fun ctv h' tk hx hsz => ?_
    have I1 : Inv X pins σ H { s with heap := h', toks := tk } := I.kept hx
    have nF : H h'.objs.size = none := I1.hok.fresh (Nat.le_refl _)
    have I2 := inv_lam (F := ⟨"<lambda>", X.env.qual ++ "<lambda>", params, [], scope, cloFrom X.env.cells scope.names [], c'⟩) (b := body) (t' := tk) (pm := (X.mg "__name__").getD .none) (ctv := ctv) I1 rfl
    refine h h'.objs.size c' _ _ I2 (fun b o e n => ?_) (fun b e => NdefX.upd_none e) (hT.ext fun b o e => ?_) nF upd_same ?_
    · exact (upd_ne (ne_of_none e nF)).trans e
    · exact (upd_ne (ne_of_none e nF)).trans e
    · exact (upd_ne (ne_of_none hco nF)).trans hco
end
/-- the reading of a lambda -/
def tLamb (T : List NTab) (b : Expr) (mk : Addr → NF) : TE := fun _ H Q => TabsN T H ∧ ∀ (f c' : Addr) (H1 : Hp), ExtN H H1 → (∀ x, H1 x = Option.none → H x = Option.none) → TabsN T H1 → H f = none → H1 f = some (LamO f (mk c') b) → H1 c' = some (CodeO c' (mk c').qual) → Q (.ref f) H1
theorem pe_lamb {X : Cx} {T : List NTab} {nm : Nat → Nat → Str} {c P : Addr} {params : Arguments} {body : Expr} {scope : Scope} {pos : Pos} (TB : TabB X.base X.mg c P) (hcode : X.env.code = .ref c) (hm : (P, nm) ∈ T) (hn : nm pos.line pos.col = X.env.qual ++ "<lambda>") (hu : ∀ p ∈ T, p.1 = P → p.2 = nm)
    (hdef : defaultsOf params X.env = ([], [])) (hfree : ∀ y ∈ scope.names, y.2 = .free → X.env.scope.names.lookup y.1 = some .cell ∨ X.env.scope.names.lookup y.1 = some .free) :
    PE X (.Lambda params body scope pos) (tLamb T body fun c' => ⟨"<lambda>", X.env.qual ++ "<lambda>", params, [], scope, cloFrom X.env.cells scope.names [], c'⟩) := by
  refine ⟨fun pins s σ H Q I h => ?_⟩
  obtain ⟨hT, h⟩ := h
  have hfr : ∀ y ∈ scope.names, y.2 = .free → ∃ c, X.env.cells.lookup y.1 = some c := fun y hy e => (hfree y hy e).elim (fun z => I.ok.has _ (.inl z)) fun z => I.ok.has _ (.inr z)
  exact lam_make3 I TB hcode hm hn hu hT hdef hfr fun f c' H1 s' I1 eN nn T1 f0 f1 c1 => ⟨.ref f, H1, I1, rfl, h f c' H1 eN nn T1 f0 f1 c1⟩
/-! ### what a lambda promises -/
structure LOk (P : Program) (w : World) (K : PySem.W.Frag) (mg : Str → Option Value) (base : Heap) (k : Nat) (f : Addr) (F : NF) (b : Expr) (ps fr : List Str) (sp : List (Option V) → Sp) : Prop where
  run : ∀ (A : Around) (outer : List Env) (s : Shared) (H : Hp) (us : List Value) (vs : List V) (ws : List (Option V)) (Q : VK), Room k A → Env0 P w K mg base A outer s H → H f = some (LamO f F b) → H F.c = some (CodeO F.c F.qual) →
    CellsAt F.cl fr ws s.heap H → Vals vs us → sp ws vs H Q C8.E0 → codeAny (model P w) A (.call (.ref f) ⟨us, []⟩) (CR C8.CX0 outer P w H s Q C8.E0) s
theorem lok_of {P : Program} {w : World} {K : PySem.W.Frag} {mg : Str → Option Value} {base : Heap} {N ps fr : List Str} {F : NF} {b : Expr} {f : Addr} {k : Nat} {sp : List (Option V) → Sp} (S : NScope N ps fr F.scope)
    (hb : ∀ (pm ctv : Value) (us : List Value), us.length = ps.length → bindArgs (PySem.W.kla_fn "<lambda>" F.qual F.params b F.scope F.cl pm (.ref F.c) ctv) ⟨us, []⟩ = pure (ps.zip us)) (len : ∀ ws vs H Q E, sp ws vs H Q E → vs.length = ps.length)
    (hbody : ∀ (A : Around) (outer : List Env) (s : Shared) (H : Hp) (vs : List V) (ws : List (Option V)) (Q : VK), Room k (A.deeper (envF F f s.heap.objs.size)) → ws.length = fr.length → sp ws vs H Q C8.E0 →
      ∃ t, PE (ncx C8.CX0 P w K mg base N F f A outer s H C8.E0) b t ∧ t (startF N vs ws) H Q) :
    LOk P w K mg base (k + 1) f F b ps fr sp := by
  refine ⟨fun A outer s H us vs ws Q hr e0 hf hc C r hsp => ?_⟩
  have hl := len _ _ _ _ _ hsp
  have lim : s.heap.NoLimit := e0.mod.nolimit.keeps fun b o e => (e0.bs b o e).1
  obtain ⟨od, sl, pm, ctv, ho⟩ := lamO_at e0.hok hf
  refine PySem.W.kla_callFunE hr.depth ho rfl S.co S.gen rfl (codeO_at e0.hok hc) ?_
  rw [hb pm ctv us (by rw [← r.length]; exact hl)]
  refine wpAny_pure (wpAny_newFunctionEnv S.nocell (fun ⟨n, _⟩ hy => S.par n (List.of_mem_zip hy).1) (fun h₁ hns hsb => ⟨lim.fresh _ hsb, ?_⟩) S.kind)
  show codeAny _ _ (.expr b (envF F f s.heap.objs.size)) _ _
  have kp : ∀ b o, s.heap.get? b = some o → h₁.get? b = some o := fun b o e => hsb.extBut b o (Nat.ne_of_lt (Heap.lt_size e)) (Heap.get?_push_of_some _ e)
  obtain ⟨t, ht, hq⟩ := hbody A outer s H vs ws Q (hr.deeper _) C.len hsp
  have I : Inv (ncx C8.CX0 P w K mg base N F f A outer s H C8.E0) [] (startF N vs ws) H { s with heap := h₁, toks := s.toks + (ps.zip us).length } := inv_startN S hr.hd e0 hl r C hns kp
  refine PySem.W.kla_codeExpr (wpAny_mono (ht.run [] _ (startF N vs ws) H Q I hq) (fun u s' hs => ?_) fun e s' hs => hs)
  obtain ⟨v, H', J, rv, q⟩ := hs
  exact ⟨v, H', J.os, J.bare, J.base, J.hok, rv, q⟩
end K29
namespace K29
open PySem PySem.Spec PyProof.Rows L2 LamX NdefX
/-! ### cells, told -/
def isC (cl : List (Str × Addr)) (b : Addr) : Bool := cl.any fun p => decide (cl.lookup p.1 = some b)
theorem isC_iff {cl : List (Str × Addr)} {b : Addr} : isC cl b = true ↔ ∃ y, cl.lookup y = some b := by
  unfold isC
  rw [List.any_eq_true]
  constructor
  · rintro ⟨p, _, h⟩
    exact ⟨p.1, of_decide_eq_true h⟩
  · rintro ⟨y, h⟩
    exact ⟨(y, b), PySem.mem_of_lookup h, decide_eq_true h⟩
structure CelH (H : Hp) (cl : List (Str × Addr)) (fr : List Str) (ws : List V) : Prop where
  len : ws.length = fr.length
  all : ∀ y c, cl.lookup y = some c → ∃ o v, H c = some (.frz o (.own 0)) ∧ o.data = .cell v
  inj : ∀ x y c, cl.lookup x = some c → cl.lookup y = some c → x = y
  has : ∀ (i : Nat) (y : Str), fr[i]? = some y → ∃ c, cl.lookup y = some c ∧ ∀ v, ws[i]? = some v → ∃ u o, L2.RelV v u ∧ H c = some (.frz o (.own 0)) ∧ o.data = .cell (some u)
theorem CelH.ext {H H' : Hp} {cl : List (Str × Addr)} {fr : List Str} {ws : List V} (h : CelH H cl fr ws) (e : ExtN H H') : CelH H' cl fr ws := by
  have k : ∀ c o, H c = some (.frz o (.own 0)) → H' c = some (.frz o (.own 0)) := fun c o q => e _ _ q (fun ps z => by cases z)
  refine ⟨h.len, fun y c q => ?_, h.inj, fun i y q => ?_⟩
  · obtain ⟨o, v, h1, h2⟩ := h.all y c q
    exact ⟨o, v, k _ _ h1, h2⟩
  · obtain ⟨c, h1, h2⟩ := h.has i y q
    refine ⟨c, h1, fun v hv => ?_⟩
    obtain ⟨u, o, r, h3, h4⟩ := h2 v hv
    exact ⟨u, o, r, k _ _ h3, h4⟩
/-- all but the cells; the cells again -/
def unt (cl : List (Str × Addr)) (H : Hp) : Hp := fun b => if isC cl b = true then none else H b
def retr (cl : List (Str × Addr)) (H H' : Hp) : Hp := fun b => if isC cl b = true then H b else H' b
theorem unt_not {cl : List (Str × Addr)} {H : Hp} {b : Addr} (h : ¬ isC cl b = true) : unt cl H b = H b := if_neg h
theorem unt_cell {cl : List (Str × Addr)} {H : Hp} {b : Addr} (h : isC cl b = true) : unt cl H b = none := if_pos h
theorem retr_not {cl : List (Str × Addr)} {H H' : Hp} {b : Addr} (h : ¬ isC cl b = true) : retr cl H H' b = H' b := if_neg h
theorem retr_cell {cl : List (Str × Addr)} {H H' : Hp} {b : Addr} (h : isC cl b = true) : retr cl H H' b = H b := if_pos h
theorem unt_some {cl : List (Str × Addr)} {H : Hp} {b : Addr} {o : HO} (h : unt cl H b = some o) : ¬ isC cl b = true ∧ H b = some o := by
  by_cases hb : isC cl b = true
  · rw [unt_cell hb] at h
    cases h
  · rw [unt_not hb] at h
    exact ⟨hb, h⟩
theorem retr_same {cl : List (Str × Addr)} {H H' : Hp} (e : Same (unt cl H) H') : Same H (retr cl H H') := fun b o h => by
  by_cases hb : isC cl b = true
  · rw [retr_cell hb]
    exact h
  · rw [retr_not hb]
    exact e b o (by rw [unt_not hb]; exact h)
theorem CelH.nc {H : Hp} {cl : List (Str × Addr)} {fr : List Str} {ws : List V} (C : CelH H cl fr ws) {b : Addr} {o : HO} (h : H b = some o) (n : ∀ ob u, o ≠ .frz ob u) : ¬ isC cl b = true := fun z => by
  obtain ⟨y, hy⟩ := isC_iff.mp z
  obtain ⟨ob, v, h1, _⟩ := C.all y b hy
  rw [h] at h1
  exact n _ _ (Option.some.inj h1)
section
variable {P : Program} {w : World} {K : PySem.W.Frag} {mg : Str → Option Value} {base : Heap}
theorem hok_unt {H : Hp} {h : Heap} {cl : List (Str × Addr)} {fr : List Str} {ws : List V} (C : CelH H cl fr ws) (x : HOk P w H h) : HOk P w (unt cl H) h := fun a o e => by
  obtain ⟨_, e2⟩ := unt_some e
  refine (x a o e2).stay (fun _ _ _ q => q) (fun b q => ?_) fun b xs q => ?_
  · rw [unt_not (C.nc q fun _ _ z => by cases z)]
    exact q
  · rw [unt_not (C.nc q fun _ _ z => by cases z)]
    exact q
/-- a lambda called whose cells are told -/
theorem LOk.told {k : Nat} {f : Addr} {F : NF} {b : Expr} {ps fr : List Str} {sp : List (Option V) → Sp} (L : LOk P w K mg base k f F b ps fr sp) {A : Around} {outer : List Env} {s : Shared} {H : Hp} {us : List Value} {vs : List V} {ws : List V} {Q : VK}
    (hr : Room k A) (e0 : Env0 P w K mg base A outer s H) (hf : H f = some (LamO f F b)) (hc : H F.c = some (CodeO F.c F.qual)) (C : CelH H F.cl fr ws) (r : Vals vs us) (q : sp (ws.map some) vs (unt F.cl H) (fun v H' => Q v (retr F.cl H H')) C8.E0) :
    codeAny (model P w) A (.call (.ref f) ⟨us, []⟩) (CR C8.CX0 outer P w H s Q C8.E0) s := by
  have nf : ¬ isC F.cl f = true := C.nc hf fun _ _ z => by cases z
  have nc : ¬ isC F.cl F.c = true := C.nc hc fun _ _ z => by cases z
  have cells : ∀ y c, F.cl.lookup y = some c → ∃ o v, H c = some (.frz o (.own 0)) ∧ o.data = .cell v ∧ s.heap.get? c = some o := fun y c e => by
    obtain ⟨o, v, h1, h2⟩ := C.all y c e
    exact ⟨o, v, h1, h2, (e0.hok c _ h1).1⟩
  have e1 : Env0 P w K mg base A outer s (unt F.cl H) := by
    refine ⟨e0.frames, e0.mod, fun b o e => ⟨(e0.bs b o e).1, ?_⟩, e0.bsz, e0.funs, fun b hb => ?_, hok_unt C e0.hok, e0.bare⟩
    · unfold unt
      split
      · rfl
      · exact (e0.bs b o e).2
    · unfold unt
      split
      · rfl
      · exact e0.frf b hb
  have CA : CellsAt F.cl fr (ws.map some) s.heap (unt F.cl H) := by
    refine ⟨by rw [List.length_map]; exact C.len, fun y c e => ⟨unt_cell (isC_iff.mpr ⟨y, e⟩), ?_⟩, C.inj, fun i y e => ?_⟩
    · obtain ⟨o, v, _, h2, h3⟩ := cells y c e
      exact ⟨v, o, h3, h2⟩
    · obtain ⟨c, h1, h2⟩ := C.has i y e
      refine ⟨c, h1, fun v hv => ?_⟩
      have hv2 : ws[i]? = some v := by
        rw [List.getElem?_map] at hv
        cases z : ws[i]? with
        | none => rw [z] at hv; cases hv
        | some x =>
          rw [z] at hv
          exact Option.some.inj hv
      obtain ⟨u, o, ru, h3, h4⟩ := h2 v hv2
      exact ⟨u, ru, o, (e0.hok c _ h3).1, h4⟩
  refine codeAny_mono (L.run A outer s (unt F.cl H) us vs _ _ hr e1 (by rw [unt_not nf]; exact hf) (by rw [unt_not nc]; exact hc) CA r q) fun r s' h => ?_
  cases r with
  | error e => exact h
  | ok fl =>
    cases fl with
    | next => exact h
    | brk => exact h
    | cont => exact h
    | ret u =>
      obtain ⟨v, H', os, bare, un, hok, rv, q⟩ := h
      have un_ : ∀ {b : Addr}, H b = none → unt F.cl H b = none := fun {b} n => by
        unfold unt
        split
        · rfl
        · exact n
      refine ⟨v, retr F.cl H H', os, bare, ⟨fun b o e n hb hx => un.keep b o e (un_ n) hb hx, fun b o e n hb hx => un.slot b o e (un_ n) hb hx, fun b o e n hx => ?_, un.there, fun b xs e => ?_, fun b o u e => ?_, fun b ps e => ?_⟩, fun a o e => ?_, rv, q⟩
      · by_cases hb : isC F.cl b = true
        · rw [retr_cell hb]
          exact n
        · rw [retr_not hb]
          exact un.free b o e (un_ n) hx
      · by_cases hb : isC F.cl b = true
        · rw [retr_cell hb]
          exact e
        · rw [retr_not hb]
          exact un.tups b xs (by rw [unt_not hb]; exact e)
      · by_cases hb : isC F.cl b = true
        · rw [retr_cell hb]
          exact e
        · rw [retr_not hb]
          exact un.frzs b o u (by rw [unt_not hb]; exact e)
      · by_cases hb : isC F.cl b = true
        · rw [retr_cell hb]
          exact ⟨#[], by rw [e]; simp⟩
        · rw [retr_not hb]
          exact un.tbls b ps (by rw [unt_not hb]; exact e)
      · by_cases hb : isC F.cl a = true
        · rw [retr_cell hb] at e
          obtain ⟨y, hy⟩ := isC_iff.mp hb
          obtain ⟨ob, vv, h1, h2, h3⟩ := cells y a hy
          rw [h1] at e
          cases e
          have h4 : s'.heap.get? a = some ob := un.keep a ob h3 (unt_cell hb) (fun z => by
            have := e0.frf a z
            rw [h1] at this
            cases this) (by simp)
          exact ⟨h4, ⟨ob, h4⟩⟩
        · rw [retr_not hb] at e
          have nocell : ∀ {b : Addr} {u : HO}, H' b = some u → ¬ isC F.cl b = true := fun {b u} e z => by
            obtain ⟨y, hy⟩ := isC_iff.mp z
            obtain ⟨ob, vv, h1, h2, h3⟩ := cells y b hy
            rw [un.free b ob h3 (unt_cell z) (by simp)] at e
            cases e
          refine (hok a o e).stay (fun _ _ _ q => q) (fun b q => ?_) fun b xs q => ?_
          · rw [retr_not (nocell q)]
            exact q
          · rw [retr_not (nocell q)]
            exact q
end
/-! ### a def called that gets a lambda: the lambda's cells are told to it -/
def trk (cl : List (Str × Addr)) (h : Heap) (H : Hp) : Hp := fun b => if isC cl b = true then (h.get? b).map fun o => .frz o (.own 0) else H b
section
variable {X : Cx} {pins : List (Addr × Obj)} {σ : L2.St} {H : Hp} {s : Shared} {cl : List (Str × Addr)} {fr : List Str} {ws : List V} {js : List Nat}
theorem trk_cell (I : Inv X pins σ H s) (c : Caps X cl fr js) {b : Addr} (h : isC cl b = true) : H b = none ∧ ∃ o v, s.heap.get? b = some o ∧ o.data = .cell v ∧ trk cl s.heap H b = some (.frz o (.own 0)) := by
  obtain ⟨y, hy⟩ := isC_iff.mp h
  obtain ⟨v, o, ho, hd⟩ := I.cell y b (c.sub y b hy)
  refine ⟨I.freeC y b (c.sub y b hy), o, v, ho, hd, ?_⟩
  unfold trk
  rw [if_pos h, ho] <;> rfl
theorem trk_not {b : Addr} {h : Heap} (n : ¬ isC cl b = true) : trk cl h H b = H b := if_neg n
theorem trk_same (I : Inv X pins σ H s) (c : Caps X cl fr js) : Same H (trk cl s.heap H) := fun b o e => by
  by_cases hb : isC cl b = true
  · rw [(trk_cell I c hb).1] at e
    cases e
  · rw [trk_not hb]
    exact e
theorem trk_cel (I : Inv X pins σ H s) (c : Caps X cl fr js) (hw : js.map (fun j => σ[j]?) = ws.map fun v => some (some v)) : CelH (trk cl s.heap H) cl fr ws := by
  have C := cells_of I c
  have hw2 : js.map (slotAt σ) = ws.map some := by
    have e : ∀ (js : List Nat) (ws : List V), js.map (fun j => σ[j]?) = ws.map (fun v => some (some v)) → js.map (slotAt σ) = ws.map some := fun js => by
      induction js with
      | nil =>
        intro ws h
        cases ws with
        | nil => rfl
        | cons w r => cases h
      | cons j r ih =>
        intro ws h
        cases ws with
        | nil => cases h
        | cons w ws =>
          rw [List.map_cons, List.map_cons] at h
          injection h with h1 h2
          rw [List.map_cons, List.map_cons, ih ws h2, slotAt_of h1]
    exact e js ws hw
  rw [hw2] at C
  refine ⟨by have := C.len; rw [List.length_map] at this; exact this, fun y a e => ?_, C.inj, fun i y e => ?_⟩
  · obtain ⟨_, o, v, _, h2, h3⟩ := trk_cell I c (isC_iff.mpr ⟨y, e⟩)
    exact ⟨o, v, h3, h2⟩
  · obtain ⟨a, h1, h2⟩ := C.has i y e
    refine ⟨a, h1, fun v hv => ?_⟩
    obtain ⟨u, ru, o, ho, hd⟩ := h2 v (by rw [List.getElem?_map, hv] <;> rfl)
    obtain ⟨_, o', v', h4, h5, h6⟩ := trk_cell I c (isC_iff.mpr ⟨y, h1⟩)
    rw [ho] at h4
    cases h4
    exact ⟨u, o, ru, h6, hd⟩
theorem trk_env (I : Inv X pins σ H s) (c : Caps X cl fr js) (hfn : ∀ y, X.fn y = true) : Env0 X.prog X.w X.K X.mg X.base X.A X.stack s (trk cl s.heap H) := by
  have e0 := I.env0
  have big : ∀ b, isC cl b = true → X.s_0.heap.objs.size ≤ b := fun b h => by
    obtain ⟨y, hy⟩ := isC_iff.mp h
    exact I.ok.cab y b (hfn y) (c.sub y b hy)
  refine ⟨e0.frames, e0.mod, fun b o e => ⟨(e0.bs b o e).1, ?_⟩, e0.bsz, e0.funs, fun b hb => ?_, fun a o e => ?_, e0.bare⟩
  · by_cases hb : isC cl b = true
    · exact absurd (Nat.lt_of_lt_of_le (Heap.lt_size (I.ok.bs b o e).1) (big b hb)) (Nat.lt_irrefl _)
    · rw [trk_not hb]
      exact (e0.bs b o e).2
  · by_cases hc : isC cl b = true
    · exfalso
      obtain ⟨y, hy⟩ := isC_iff.mp hc
      rcases List.mem_cons.mp (I.stkSub b hb) with z | z
      · exact I.cne y b (c.sub y b hy) z
      · obtain ⟨_, o, ho, _⟩ := I.ok.funs.mem z
        exact absurd (Nat.lt_of_lt_of_le (Heap.lt_size ho) (big b hc)) (Nat.lt_irrefl _)
    · rw [trk_not hc]
      exact e0.frf b hb
  · by_cases hb : isC cl a = true
    · obtain ⟨_, o', v, h1, h2, h3⟩ := trk_cell I c hb
      rw [h3] at e
      cases e
      exact ⟨h1, ⟨o', h1⟩⟩
    · rw [trk_not hb] at e
      exact (I.hok a o e).stay (fun _ _ _ q => q) (fun b q => trk_same I c _ _ q) fun b xs q => trk_same I c _ _ q
/-- behind such a call -/
theorem trk_after (I : Inv X pins σ H s) (c : Caps X cl fr js) {Q : VK} {u : Value} {s' : Shared} (h : CE X.stack X.prog X.w (trk cl s.heap H) s (fun v H' => Q v (unt cl H')) u s') (hfn : ∀ y, X.fn y = true) : CE X.stack X.prog X.w H s Q u s' := by
  obtain ⟨v, H', os, bare, un, hok, rv, q⟩ := h
  have cellAt : ∀ b, isC cl b = true → ∃ o, s.heap.get? b = some o ∧ H' b = some (.frz o (.own 0)) ∧ s'.heap.get? b = some o := fun b hb => by
    obtain ⟨_, o, vv, h1, h2, h3⟩ := trk_cell I c hb
    have h4 := un.frzs b o _ h3
    exact ⟨o, h1, h4, (hok b _ h4).1⟩
  have none_ : ∀ {b : Addr}, H b = none → ¬ isC cl b = true → trk cl s.heap H b = none := fun {b} n hb => by rw [trk_not hb]; exact n
  refine ⟨v, unt cl H', os, bare, ⟨fun b o e n hb hx => ?_, fun b o e n hb hx => ?_, fun b o e n hx => ?_, un.there, fun b xs e => ?_, fun b o u e => ?_, fun b ps e => ?_⟩, fun a o e => ?_, rv, q⟩
  · by_cases hc : isC cl b = true
    · obtain ⟨o', h1, _, h3⟩ := cellAt b hc
      rw [e] at h1
      cases h1
      exact h3
    · exact un.keep b o e (none_ n hc) hb hx
  · by_cases hc : isC cl b = true
    · obtain ⟨o', h1, _, h3⟩ := cellAt b hc
      rw [e] at h1
      cases h1
      exact ⟨o.slots, h3⟩
    · exact un.slot b o e (none_ n hc) hb hx
  · by_cases hc : isC cl b = true
    · exact unt_cell hc
    · rw [unt_not hc]
      exact un.free b o e (none_ n hc) hx
  · have hc : ¬ isC cl b = true := fun hc => by
      rw [(trk_cell I c hc).1] at e
      cases e
    rw [unt_not hc]
    exact un.tups b xs (by rw [trk_not hc]; exact e)
  · have hc : ¬ isC cl b = true := fun hc => by
      rw [(trk_cell I c hc).1] at e
      cases e
    rw [unt_not hc]
    exact un.frzs b o u (by rw [trk_not hc]; exact e)
  · have hc : ¬ isC cl b = true := fun hc => by
      rw [(trk_cell I c hc).1] at e
      cases e
    rw [unt_not hc]
    exact un.tbls b ps (by rw [trk_not hc]; exact e)
  · obtain ⟨hc, e2⟩ := unt_some e
    have nc : ∀ {b : Addr} {u : HO}, H' b = some u → (∀ ob x, u ≠ .frz ob x) → ¬ isC cl b = true := fun {b u} e n z => by
      obtain ⟨o', _, h2, _⟩ := cellAt b z
      rw [e] at h2
      exact n _ _ (Option.some.inj h2)
    refine (hok a o e2).stay (fun _ _ _ q => q) (fun b q => ?_) fun b xs q => ?_
    · rw [unt_not (nc q fun _ _ z => by cases z)]
      exact q
    · rw [unt_not (nc q fun _ _ z => by cases z)]
      exact q
end
/-- f(.., lambda ..): the captured cells are told -/
def tCallC (cl : List (Str × Addr)) (fr : List Str) (js : List Nat) (sp : Sp) (dvs : List V) (t : TA) : TE := fun σ H Q => t σ H fun vs H1 => ∃ ws : List V, js.map (fun j => σ[j]?) = ws.map (fun v => some (some v)) ∧
  ∀ H2, Same H1 H2 → CelH H2 cl fr ws → (∀ b o, H1 b = some o → ¬ isC cl b = true) → sp (vs ++ dvs) H2 (fun v H' => Q v (unt cl H')) C8.E0
theorem pe_cc {X : Cx} {cl : List (Str × Addr)} {fr : List Str} {js : List Nat} {k j : Nat} {x : Str} {sp : Sp} {dvs : List V} {t : TA} {e : Expr} {es : List Expr} {p pos : Pos} (c : C8.Cal X.prog X.w X.K X.mg X.base k x sp dvs) (cp : X.Ok → Caps X cl fr js) (hfn : ∀ y, X.fn y = true) (hr : Room j X.A) (hk : k ≤ j) (hg : Gl X x) (ha : PA X (e :: es) t)
    (hdb : (x == ("__debug__" : Str)) = false := by decide) (he : starEach (e :: es) X.env = (false, eval e X.env) :: starEach es X.env := by rfl) (hpl : (backTo pos (starEach es X.env)).any (·.1) = false := by rfl) :
    PE X (.Call (.Name x p) (e :: es) [] pos) (tCallC cl fr js sp dvs t) := by
  obtain ⟨f, fd, ps, ds, F, hm, kp, b, d⟩ := c.ex
  refine ⟨fun pins s σ H Q I h => ?_⟩
  refine wpAny_Call_Name_kw (ld_glob I hg hm ?_ hdb)
  refine PySem.W.callWith_K (h₀ := X.base) I.ok.mod.kin kp (thn (ha.run pos pins s σ H _ I h) fun us s1 ⟨vs, H1, I1, r, q⟩ => ⟨I1.kIn, ?_⟩) he hpl
  obtain ⟨ws, hw, q⟩ := q
  have cc := cp I1.ok
  have q2 := q (trk cl s1.heap H1) (trk_same I1 cc) (trk_cel I1 cc hw) (fun b o e z => by
    rw [(trk_cell I1 cc z).1] at e
    cases e)
  have rr : Vals (vs ++ dvs) (us ++ ds) := Vals.append r d
  have hl : (us ++ ds).length = ps.length := by
    rw [← rr.length]
    exact F.len _ _ _ _ q2
  refine wpAny_call (codeAny_mono (F.run X.A X.stack s1 _ ⟨us, []⟩ (us ++ ds) (vs ++ dvs) _ C8.E0 (hr.mono hk) (trk_env I1 cc hfn) (b s1 us I1.kIn hl) rr q2) fun r s' hq => ?_)
  cases r with
  | error e => exact (show False from hq).elim
  | ok fl =>
    cases fl with
    | ret u => exact I1.after (trk_after I1 cc hq hfn)
    | next => exact False.elim hq
    | brk => exact False.elim hq
    | cont => exact False.elim hq
/-! ### f(..), f a name that holds a lambda -/
structure FOk (P : Program) (w : World) (K : PySem.W.Frag) (mg : Str → Option Value) (base : Heap) (k : Nat) (sp : Addr → Sp) : Prop where
  run : ∀ (f : Addr) (A : Around) (outer : List Env) (s : Shared) (H : Hp) (us : List Value) (vs : List V) (Q : VK), Room k A → Env0 P w K mg base A outer s H → Vals vs us → sp f vs H Q C8.E0 →
    PySem.W.FnAt f s.heap ∧ codeAny (model P w) A (.call (.ref f) ⟨us, []⟩) (CR C8.CX0 outer P w H s Q C8.E0) s
def tCallF (i : Nat) (sp : Addr → Sp) (t : TA) : TE := fun σ H Q => ∃ f F b, σ[i]? = some (some (.ref f)) ∧ H f = some (LamO f F b) ∧ t σ H fun vs H1 => sp f vs H1 Q C8.E0
theorem pe_callF {X : Cx} {i k j : Nat} {x : Str} {sp : Addr → Sp} {t : TA} {e : Expr} {es : List Expr} {p pos : Pos} (Fn : FOk X.prog X.w X.K X.mg X.base k sp) (hr : Room j X.A) (hk : k ≤ j) (hN : X.N[i]? = some x) (hv : Vis X.env.scope x) (ha : PA X (e :: es) t)
    (hd : (x == ("__debug__" : Str)) = false := by decide) (hcd : (x == ("__classdict__" : Str)) = false := by decide)
    (he : starEach (e :: es) X.env = (false, eval e X.env) :: starEach es X.env := by rfl) (hpl : (backTo pos (starEach es X.env)).any (·.1) = false := by rfl) :
    PE X (.Call (.Name x p) (e :: es) [] pos) (tCallF i sp t) := by
  refine ⟨fun pins s σ H Q I h => ?_⟩
  obtain ⟨f, F, b, hs, hf, ht⟩ := h
  refine wpAny_Call_Name_kw (thn ((pe_var (pos := p) hN hv hd hcd).run pins s σ H (fun v H1 => v = .ref f ∧ H1 = H) I ⟨.ref f, hs, rfl, rfl⟩) fun u s1 ⟨v, H1, I1, r1, q1⟩ => ?_)
  obtain ⟨ev, eH⟩ := q1
  subst ev
  rw [eH] at I1
  obtain rfl : u = Value.ref f := r1
  refine PySem.W.callWith_F (first := []) (lam_at I1 hf) (thn (ha.run pos pins s1 σ H _ I1 ht) fun us s2 ⟨vs, H2, I2, r, q⟩ => ?_) he hpl
  obtain ⟨fa, hc⟩ := Fn.run f X.A X.stack s2 H2 us vs Q (hr.mono hk) I2.env0 r q
  refine ⟨fa, ?_⟩
  show wpAny _ _ (call (.ref f) us) _ _ _
  refine wpAny_call (codeAny_mono hc fun r s' hq => ?_)
  cases r with
  | error e => exact (show False from hq).elim
  | ok fl =>
    cases fl with
    | ret u => exact I2.after hq
    | next => exact False.elim hq
    | brk => exact False.elim hq
    | cont => exact False.elim hq
end K29
namespace K29
open PySem PySem.Spec PyProof.Rows L2 LamX NdefX
/-! ### min(xs, key=f), f a lambda that gives pairs of ints -/
theorem lex_le {a b c d : Int} (h : HT.lexLt [a, b] [c, d] = true) : a ≤ c := by
  rw [HT.lexLt_cons] at h
  split at h
  · omega
  · have := of_decide_eq_true h
    omega
theorem lex_ge {a b c d : Int} (h : ¬ HT.lexLt [a, b] [c, d] = true) : c ≤ a := by
  rw [HT.lexLt_cons] at h
  split at h
  · omega
  · have : ¬ a < c := fun z => h (decide_eq_true z)
    omega
section
variable {X : Cx} {σ : L2.St} {H0 : Hp} {l q I S : Addr} {xs : List V} {keys : Nat → Int × Int} {R : Result → Shared → Prop}
abbrev KTurn (X : Cx) (σ : L2.St) (H0 : Hp) (q : Addr) (xs : List V) (keys : Nat → Int × Int) : Prop :=
  ∀ (pins : List (Addr × Obj)) (i : Nat) (x : V) (u : Value) (H1 : Hp) (s1 : Shared), xs[i]? = some x → RelV x u → Same H0 H1 → Inv X pins σ H1 s1 →
    wpAny (model X.prog X.w) X.A.in1 (call (.ref q) [u]) (fun v s2 => ∃ H2 t, Inv X pins σ H2 s2 ∧ v = .ref t ∧ Same H1 H2 ∧ H2 t = some (.tup [.int (keys i).1, .int (keys i).2])) (fun _ _ => False) s1
abbrev KLeast (xs : List V) (keys : Nat → Int × Int) (i : Nat) : Prop := ∀ j, j < xs.length → (keys i).1 ≤ (keys j).1
theorem listAt {pins : List (Addr × Obj)} {H : Hp} {s : Shared} (I : Inv X pins σ H s) (hl : H l = some (.lst xs)) : ∃ its : List Value, Vals xs its ∧ s.heap.IsList l its.toArray := by
  obtain ⟨its, r, p, _⟩ := I.list (SqL.of hl)
  exact ⟨its, r, p.isList⟩
theorem lst_get {pins : List (Addr × Obj)} {H : Hp} {s : Shared} {a : Addr} {ys : List V} (I : Inv X pins σ H s) (h : H a = some (.lst ys)) : ∃ (its : List Value) (n : Nat), Vals ys its ∧ s.heap.get? a = some (seqObj "list" its.toArray n) := by
  obtain ⟨_, its, n, r, e⟩ := I.hok a _ h
  exact ⟨its, n, r, e⟩
theorem lst_put {pins : List (Addr × Obj)} {H : Hp} {s : Shared} {a : Addr} {ys zs : List V} {its vs : List Value} {n : Nat} {tk : Nat} (I : Inv X pins σ H s) (h : H a = some (.lst ys)) (ho : s.heap.get? a = some (seqObj "list" its.toArray n)) (r : Vals zs vs) (hz : zs.length ≤ sizeLine) :
    Inv X pins σ (upd H a (.lst zs)) { s with heap := s.heap.update a (Obj.mapSeq fun _ => vs.toArray), toks := tk } := by
  have s1 := Heap.SameBut.update s.heap a (Obj.mapSeq fun _ => vs.toArray)
  obtain ⟨c2, hc2⟩ : ∃ c2, (s.heap.update a (Obj.mapSeq fun _ => vs.toArray)).get? a = some (seqObj "list" vs.toArray c2) := ⟨_, get?_update_seq ho fun _ => vs.toArray⟩
  exact I.write (x := a) (e := a) (t' := tk) (by rw [h]; trivial) (.inl rfl) (fun b u hb e => (s1.2 b hb).trans e) ⟨_, hc2⟩ ⟨hz, vs, c2, r, hc2⟩
theorem val_at {xs : List V} {us : List Value} (r : Vals xs us) {i : Nat} {u : Value} (h : us.toArray[i]? = some u) : ∃ x, xs[i]? = some x ∧ RelV x u := by
  have h : us[i]? = some u := by simpa using h
  have hi : i < xs.length := by
    rw [r.length]
    exact (List.getElem?_eq_some_iff.mp h).1
  obtain ⟨u', e, ru⟩ := r.get (List.getElem?_eq_getElem hi)
  rw [h] at e
  cases e
  exact ⟨_, List.getElem?_eq_getElem hi, ru⟩
theorem kmin_loop (hh : X.A.handled = none) (hu : X.A.in1.units < cLine) (hlI : l ≠ I) (hSI : S ≠ I) (nS : H0 S = none) (hl : H0 l = some (.lst xs)) (turn : KTurn X σ H0 q xs keys) (pins : List (Addr × Obj))
    (fin : ∀ i x u H1 s1, xs[i]? = some x → RelV x u → Same H0 H1 → KLeast xs keys i → Inv X pins σ H1 s1 → R (.ok (.ret u)) s1) :
    ∀ (r j i : Nat) (H1 : Hp) (s1 : Shared) (x : V) (t : Addr), xs.length - (j + 1) = r → j + 1 ≤ xs.length → Inv X pins σ H1 s1 → Same H0 H1 → FpOk X pins H1 I → s1.heap.IsListIter I l (j + 1) → H1 S = some (.lst [x, .ref t]) →
      H1 t = some (.tup [.int (keys i).1, .int (keys i).2]) → xs[i]? = some x → i ≤ j → (∀ j', j' ≤ j → (keys i).1 ≤ (keys j').1) →
      codeAny (model X.prog X.w) X.A (.builtin "min.loop" ⟨[.ref I, .ref q, .ref S], []⟩) R s1 := by
  have hname : (toString "min" ++ toString ".loop" : String) = "min.loop" := by decide
  intro r
  induction r with
  | zero =>
    intro j i H1 s1 x t hr hj J sm fp hit hS ht hx hij hbest
    obtain ⟨its, rl, hL⟩ := listAt J (sm _ _ hl)
    obtain ⟨us, n, rS, hoS⟩ := lst_get J hS
    obtain ⟨u1, u2, rfl, r1, r2⟩ := vals2 rS
    obtain rfl : u2 = Value.ref t := r2
    have W := Walks.list (prog := X.prog) (w := X.w) (A := X.A.in1) hh I l hlI its.toArray
    have hsz : its.toArray.size = xs.length := by rw [List.size_toArray, rl.length]
    refine codeAny_builtin PySem.F.entry_min_loop ?_
    rw [Around.under_plainId PySem.F.plain_min_loop _]
    show wpAny _ X.A.in1 (seqItems? (.ref S) >>= _) _ _ _
    refine wpAny_bind (wpAny_seqItems hoS rfl ?_)
    show wpAny _ X.A.in1 (tryCatch (pyNext (.ref I)) _ >>= _) _ _ _
    refine wpAny_bind (wpAny_tryCatch (W.done _ _ _ ⟨by rw [hsz, show xs.length = j + 1 by omega]; exact hit, hL⟩ fun h' tk' hk' => ?_))
    have J1 : Inv X pins σ H1 { s1 with heap := h', toks := tk' } := J.turned (fun b o hb e => hk' b o (by simpa using hb) e) fp.1 fp.2.1 fp.2.2.2.1 fp.2.2.2.2.1 fp.2.2.2.2.2
    have hS' := hk' S _ (by simpa using hSI) hoS
    show wpAny _ X.A.in1 (updateSeq S (fun _ => #[]) >>= _) _ _ _
    refine wpAny_bind ?_
    refine wpAny_updateSeq hS' rfl (wpAny_bind (wpAny_letGo (wpAny_pure ?_)))
    refine fin i x u1 _ _ hx r1 ?_ (fun j' hj' => hbest j' (by omega)) (lst_put (vs := []) J1 hS hS' .nil (Nat.zero_le _))
    exact fun b o e => by
      rw [upd_ne (ne_of_none e nS)]
      exact sm b o e
  | succ r ih =>
    intro j i H1 s1 x t hr hj J sm fp hit hS ht hx hij hbest
    have hlt : j + 1 < xs.length := by omega
    obtain ⟨its, rl, hL⟩ := listAt J (sm _ _ hl)
    obtain ⟨us, n, rS, hoS⟩ := lst_get J hS
    obtain ⟨u1, u2, rfl, r1, r2⟩ := vals2 rS
    obtain rfl : u2 = Value.ref t := r2
    have W := Walks.list (prog := X.prog) (w := X.w) (A := X.A.in1) hh I l hlI its.toArray
    have hsz : its.toArray.size = xs.length := by rw [List.size_toArray, rl.length]
    refine codeAny_builtin PySem.F.entry_min_loop ?_
    rw [Around.under_plainId PySem.F.plain_min_loop _]
    show wpAny _ X.A.in1 (seqItems? (.ref S) >>= _) _ _ _
    refine wpAny_bind (wpAny_seqItems hoS rfl ?_)
    show wpAny _ X.A.in1 (tryCatch (pyNext (.ref I)) _ >>= _) _ _ _
    refine wpAny_bind (wpAny_tryCatch (W.item (j + 1) _ _ _ (by rw [hsz]; exact hlt) ⟨hit, hL⟩ fun v h' tk' hP hst' hk' => ?_))
    obtain ⟨x', hx', rx'⟩ := val_at rl hP
    have J1 : Inv X pins σ H1 { s1 with heap := h', toks := tk' } := J.turned (fun b o hb e => hk' b o (by simpa using hb) e) fp.1 fp.2.1 fp.2.2.2.1 fp.2.2.2.2.1 fp.2.2.2.2.2
    obtain ⟨oI, hoI, hoc, hod⟩ := id hst'.1
    have J2 : Inv X (pins ++ pinsAt [I] h') σ H1 { s1 with heap := h', toks := tk' } := J1.pinned (fun b hb => by rw [List.mem_singleton.mp hb]; exact fp) (fun b hb => by
      rw [List.mem_singleton.mp hb]
      exact ⟨oI, hoI, fun v z => by rw [hod] at z; cases z⟩)
    show wpAny _ X.A.in1 (tryCatch (holding [v] (call (.ref q) [v])) _ >>= _) _ _ _
    refine wpAny_bind (wpAny_tryCatch (wpAny_holding (wpAny_mono (turn _ (j + 1) x' v H1 _ hx' rx' sm J2) (fun kv s2 he => ?_) fun _ _ hF => hF.elim)))
    obtain ⟨H2, t2, J3, rfl, sm2, ht2⟩ := he
    have pI := J3.pin (I, oI) (List.mem_append_right _ (List.mem_append_right _ (mem_pinsAt (List.mem_singleton.mpr rfl) hoI)))
    have fp2 : FpOk X pins H2 I := ⟨pI.2.1, fp.2⟩
    have hit2 : s2.heap.IsListIter I l (j + 1 + 1) := ⟨oI, pI.1, hoc, hod⟩
    have J4 : Inv X pins σ H2 s2 := J3.unpinned
    have ht' := sm2 _ _ ht
    have hS2 := sm2 _ _ hS
    have sm02 : Same H0 H2 := Same.trans sm sm2
    obtain ⟨its1, q1, p1, _⟩ := J4.tuple (X := X) (show SqT X.K H2 t2 (([(keys (j + 1)).1, (keys (j + 1)).2] : List Int).map V.int) from SqT.of ht2)
    obtain ⟨its2, q2, p2, _⟩ := J4.tuple (X := X) (show SqT X.K H2 t (([(keys i).1, (keys i).2] : List Int).map V.int) from SqT.of ht')
    show wpAny _ X.A.in1 (tryCatch (holding [v, .ref t2] (richCompare .Lt (.ref t2) (.ref t) >>= _)) _ >>= _) _ _ _
    refine wpAny_bind (wpAny_tryCatch (wpAny_holding (wpAny_bind ?_)))
    refine HT.lt_tupInts (Q := _) (s := s2) p1 p2 (intsAre_of q1) (intsAre_of q2) hu ?_
    refine wpAny_bind (wpAny_holding (wpAny_truthy_bool ?_))
    refine wpAny_bind (wpAny_letGo (wpAny_pure ?_))
    by_cases hb : HT.lexLt [(keys (j + 1)).1, (keys (j + 1)).2] [(keys i).1, (keys i).2] = true
    · obtain ⟨us3, n3, rS3, hoS3⟩ := lst_get J4 hS2
      obtain ⟨a1, a2, rfl, _, _⟩ := vals2 rS3
      simp only [hb, if_true]
      refine wpAny_bind ?_
      refine wpAny_updateSeq hoS3 rfl (wpAny_bind (wpAny_letGo ?_))
      rw [hname]
      refine wpAny_pure ⟨plainId_quiet PySem.F.plain_min_loop _, ih (j + 1) (j + 1) _ _ x' t2 (by omega) hlt (lst_put (vs := [v, .ref t2]) (zs := [x', .ref t2]) J4 hS2 hoS3 (.cons rx' (.cons rfl .nil)) (by show 2 ≤ sizeLine; decide)) (fun b o e => ?_) ⟨?_, fp.2⟩ ?_ upd_same ?_ hx' (Nat.le_refl _) fun j' hj' => ?_⟩
      · rw [upd_ne (ne_of_none e nS)]
        exact sm02 b o e
      · rw [upd_ne hSI.symm]
        exact fp2.1
      · have s3 := Heap.SameBut.update s2.heap S (Obj.mapSeq fun _ => ([v, .ref t2] : List Value).toArray)
        exact ⟨oI, (s3.2 I hSI.symm).trans pI.1, hoc, hod⟩
      · rw [upd_ne (ne_of ht2 hS2 (by intro z; cases z))]
        exact ht2
      · by_cases e : j' = j + 1
        · rw [e]
          exact Int.le_refl _
        · have h1 := hbest j' (by omega)
          have h2 := lex_le hb
          exact Int.le_trans h2 h1
    · simp only [hb, Bool.false_eq_true, if_false]
      refine wpAny_bind (wpAny_letGo ?_)
      rw [hname]
      refine wpAny_pure ⟨plainId_quiet PySem.F.plain_min_loop _, ih (j + 1) i H2 s2 x t (by omega) hlt J4 sm02 fp2 hit2 hS2 ht' hx (by omega) fun j' hj' => ?_⟩
      by_cases e : j' = j + 1
      · rw [e]
        exact lex_ge hb
      · exact hbest j' (by omega)
theorem kmin_run {pins : List (Addr × Obj)} {s : Shared} {Q : VK} (J : Inv X pins σ H0 s) (hh : X.A.handled = none) (hu : X.A.in1.units < cLine) (hl : H0 l = some (.lst xs)) (hne : 0 < xs.length) (turn : KTurn X σ H0 q xs keys)
    (fin : ∀ i x H1, xs[i]? = some x → Same H0 H1 → KLeast xs keys i → Q x H1) :
    wpAny (model X.prog X.w) X.A (call (.builtin "min") [.ref l] [(Str.ofString "key", .ref q)]) (EP X pins σ Q) X.xe s := by
  have hname : (toString "min" ++ toString ".loop" : String) = "min.loop" := by decide
  obtain ⟨its, rl, hL⟩ := listAt J hl
  obtain ⟨ol, hol, _⟩ := id hL
  have hll : l < s.heap.objs.size := Heap.lt_size hol
  refine kmk_tree PySem.F.kind_min PySem.F.plain_min PySem.F.entry_min (kmk_min_key _ _) ?_
  show wpAny _ X.A.in1 (Builtin.Builtins.bindParams "min" ["key", "default"] 0 ⟨[], [(Str.ofString "key", .ref q)]⟩ >>= _) _ _ s
  refine wpAny_bind (wpAny_of_eq (show Builtin.Builtins.bindParams "min" ["key", "default"] 0 ⟨[], [(Str.ofString "key", .ref q)]⟩ = pure [some (.ref q), none] from rfl) ?_)
  refine wpAny_bind (wpAny_pure ?_)
  refine wpAny_bind (wpAny_pyIter_list hL ?_)
  refine wpAny_bind (wpAny_newList ?_ (Nat.zero_le _))
  rw [hname]
  refine wpAny_pure ⟨plainId_quiet PySem.F.plain_min_loop _, ?_⟩
  obtain ⟨I, eI⟩ : ∃ I, s.heap.objs.size = I := ⟨_, rfl⟩
  have hS : (s.heap.push { cls := .type "list_iterator", data := .fields #[.ref l, .int 0 0] }).objs.size = I + 1 := by rw [size_push', eI]
  rw [hS, eI]
  have gI : (s.heap.push { cls := .type "list_iterator", data := .fields #[.ref l, .int 0 0] }).get? I = some { cls := .type "list_iterator", data := .fields #[.ref l, .int 0 0] } := by
    rw [← eI]
    exact Heap.get?_push_size _ rfl
  have J0 : Inv X pins σ H0 { s with heap := s.heap.push { cls := .type "list_iterator", data := .fields #[.ref l, .int 0 0] } } := J.kept (t' := s.toks) fun b o e => Heap.get?_push_of_some _ e
  have fpI : FpOk X pins H0 I := J.fpOk (by rw [eI]; exact Nat.le_refl _) (J.hok.fresh (by rw [eI]; exact Nat.le_refl _))
  have nS : H0 (I + 1) = none := J0.hok.fresh (by rw [hS]; exact Nat.le_refl _)
  have hSI : I + 1 ≠ I := Nat.succ_ne_self I
  have hlI : l ≠ I := by
    rw [← eI]
    exact Nat.ne_of_lt hll
  have gS : ((s.heap.push { cls := .type "list_iterator", data := .fields #[.ref l, .int 0 0] }).push { cls := .type "list", data := .seq ([] : List Value).toArray }).get? (I + 1) = some (seqObj "list" ([] : List Value).toArray 0) := by
    rw [← hS]
    exact Heap.get?_push_size _ rfl
  have J1 : Inv X pins σ (upd H0 (I + 1) (.lst [])) { s with heap := (s.heap.push { cls := .type "list_iterator", data := .fields #[.ref l, .int 0 0] }).push { cls := .type "list", data := .seq ([] : List Value).toArray } } :=
    J0.laid (t' := s.toks) (fun b o e => Heap.get?_push_of_some _ e) (by show (s.heap.push _).objs.size ≤ I + 1; rw [hS]; exact Nat.le_refl _) ⟨Nat.zero_le _, [], 0, .nil, gS⟩
  have gI1 : ((s.heap.push { cls := .type "list_iterator", data := .fields #[.ref l, .int 0 0] }).push { cls := .type "list", data := .seq ([] : List Value).toArray }).get? I = some { cls := .type "list_iterator", data := .fields #[.ref l, .int 0 0] } := Heap.get?_push_of_some _ gI
  have sm1 : Same H0 (upd H0 (I + 1) (.lst [])) := fun b o e => by
    rw [upd_ne (ne_of_none e nS)]
    exact e
  have fp1 : FpOk X pins (upd H0 (I + 1) (.lst [])) I := ⟨by rw [upd_ne hSI.symm]; exact fpI.1, fpI.2⟩
  have hS1 : upd H0 (I + 1) (.lst []) (I + 1) = some (.lst []) := upd_same
  obtain ⟨its, rl, hL⟩ := listAt J1 (sm1 _ _ hl)
  have W := Walks.list (prog := X.prog) (w := X.w) (A := X.A.in1) hh I l hlI its.toArray
  have hsz : its.toArray.size = xs.length := by rw [List.size_toArray, rl.length]
  refine codeAny_builtin PySem.F.entry_min_loop ?_
  rw [Around.under_plainId PySem.F.plain_min_loop _]
  show wpAny _ X.A.in1 (seqItems? (.ref _) >>= _) _ _ _
  refine wpAny_bind (wpAny_seqItems gS rfl ?_)
  show wpAny _ X.A.in1 (tryCatch (pyNext (.ref I)) _ >>= _) _ _ _
  refine wpAny_bind (wpAny_tryCatch (W.item 0 _ _ _ (by rw [hsz]; exact hne) ⟨⟨_, gI1, rfl, rfl⟩, hL⟩ fun v h' tk' hP hst' hk' => ?_))
  obtain ⟨x', hx', rx'⟩ := val_at rl hP
  have J2 := J1.turned (h' := h') (t' := tk') (it := I) (fun b o hb e => hk' b o (by simpa using hb) e) fp1.1 fp1.2.1 fp1.2.2.2.1 fp1.2.2.2.2.1 fp1.2.2.2.2.2
  obtain ⟨oI, hoI, hoc, hod⟩ := id hst'.1
  have J3 : Inv X (pins ++ pinsAt [I] h') σ (upd H0 (I + 1) (.lst [])) _ := J2.pinned (fun b hb => by rw [List.mem_singleton.mp hb]; exact fp1) (fun b hb => by
    rw [List.mem_singleton.mp hb]
    exact ⟨oI, hoI, fun v z => by rw [hod] at z; cases z⟩)
  show wpAny _ X.A.in1 (tryCatch (holding [v] (call (.ref q) [v])) _ >>= _) _ _ _
  refine wpAny_bind (wpAny_tryCatch (wpAny_holding (wpAny_mono (turn _ 0 x' v _ _ hx' rx' sm1 J3) (fun kv s2 he => ?_) fun _ _ hF => hF.elim)))
  obtain ⟨H2, t2, J4, rfl, sm2, ht2⟩ := he
  have pI := J4.pin (I, oI) (List.mem_append_right _ (List.mem_append_right _ (mem_pinsAt (List.mem_singleton.mpr rfl) hoI)))
  have J5 : Inv X pins σ H2 s2 := J4.unpinned
  have hS2 := sm2 _ _ hS1
  obtain ⟨us3, n3, rS3, hoS3⟩ := lst_get J5 hS2
  cases rS3
  show wpAny _ X.A.in1 (updateSeq (I + 1) (fun _ => #[v, .ref t2]) >>= _) _ _ _
  refine wpAny_bind ?_
  refine wpAny_updateSeq hoS3 rfl ?_
  rw [hname]
  refine wpAny_pure ⟨plainId_quiet PySem.F.plain_min_loop _, kmin_loop hh hu hlI hSI nS hl turn pins (fun i x u H1 s1 e1 e2 e3 e4 e5 => ⟨x, H1, e5, e2, fin i x H1 e1 e3 e4⟩) _ 0 0 _ _ x' t2 rfl hne (lst_put (vs := [v, .ref t2]) (zs := [x', .ref t2]) J5 hS2 hoS3 (.cons rx' (.cons rfl .nil)) (by show 2 ≤ sizeLine; decide)) (fun b o e => ?_) ⟨?_, fpI.2⟩ ?_ upd_same ?_ hx' (Nat.le_refl _) fun j' hj' => ?_⟩
  · rw [upd_ne (ne_of_none e nS)]
    exact sm2 b o (sm1 b o e)
  · rw [upd_ne hSI.symm]
    exact pI.2.1
  · have s3 := Heap.SameBut.update s2.heap (I + 1) (Obj.mapSeq fun _ => ([v, .ref t2] : List Value).toArray)
    exact ⟨oI, (s3.2 I hSI.symm).trans pI.1, hoc, hod⟩
  · rw [upd_ne (ne_of ht2 hS2 (by intro z; cases z))]
    exact ht2
  · have e : j' = 0 := by omega
    subst e
    exact Int.le_refl _
end
end K29
namespace K29
open PySem PySem.Spec PyProof.Rows L2 LamX NdefX
abbrev rMinK (mk : Addr → NF) (b : Expr) (sp : Addr → Addr → List (Option V) → Sp) (ws : List (Option V)) (vs zs : List V) (H2 : Hp) (Q : VK) : Prop := ∃ (l q c' : Addr) (xs : List V) (keys : Nat → Int × Int), vs = [.ref l] ∧ zs = [.ref q] ∧ H2 l = some (.lst xs) ∧ 0 < xs.length ∧ H2 q = some (LamO q (mk c') b) ∧ H2 (mk c').c = some (CodeO (mk c').c (mk c').qual) ∧
  (∀ i x H3, xs[i]? = some x → Same H2 H3 → sp q c' ws [x] H3 (fun v H4 => ∃ t, v = .ref t ∧ Same H3 H4 ∧ H4 t = some (.tup [.int (keys i).1, .int (keys i).2])) C8.E0) ∧ (∀ i x H3, xs[i]? = some x → Same H2 H3 → KLeast xs keys i → Q x H3)
def tMinK (mk : Addr → NF) (b : Expr) (js : List Nat) (sp : Addr → Addr → List (Option V) → Sp) (ta tk : TA) : TE := fun σ H Q => ta σ H fun vs H1 => tk σ H1 fun zs H2 => rMinK mk b sp (js.map (slotAt σ)) vs zs H2 Q
theorem pe_mink {X : Cx} {mk : Addr → NF} {b : Expr} {cl : List (Str × Addr)} {ps fr : List Str} {js : List Nat} {k j : Nat} {sp : Addr → Addr → List (Option V) → Sp} {ta tk : TA} {e : Expr} {kws : List Keyword} {p pos : Pos} (L : ∀ f c', LOk X.prog X.w X.K X.mg X.base k f (mk c') b ps fr (sp f c')) (hcl : ∀ c', (mk c').cl = cl) (cp : X.Ok → Caps X cl fr js)
    (hr : Room j X.A) (hk : k + 1 ≤ j) (hg : Gl X "min") (hm : X.mg "min" = none) (ha : PA X [e] ta) (hkw : PK X kws tk) (hv : bootBuiltins "min" = some (.builtin "min") := by decide +kernel)
    (h1 : backTo pos (starEach [e] X.env) = (false, eval e X.env) :: backTo pos (starEach [] X.env) := by rfl) (hpl : (backTo pos (starEach [e] X.env)).any (·.1) = false := by rfl)
    (hall : (backToKw pos (keywordEach kws X.env)).all (·.1.isSome) = true := by rfl) (hnone : (backToKw pos (keywordEach kws X.env)).any (·.1.isNone) = false := by rfl) (hks : (backToKw pos (keywordEach kws X.env)).filterMap (·.1) = [Str.ofString "key"] := by rfl) :
    PE X (.Call (.Name "min" p) [e] kws pos) (tMinK mk b js sp ta tk) := by
  refine ⟨fun pins s σ H Q I h => ?_⟩
  refine wpAny_Call_Name_kw (ld_blt I hg hm hv ?_ (by decide) (by decide))
  refine PyProof.Rows.callWith_kw (thn (ha.run pos pins s σ H _ I h) fun us s1 ⟨vs, H1, I1, r1, q1⟩ => thn (hkw.run pos pins s1 σ H1 _ I1 q1) fun ws s2 ⟨zs, H2, I2, r2, q2⟩ => ?_) h1 hpl hall hnone
  obtain ⟨l, q, c', xs, keys, rfl, rfl, hL, hne, hq, hc, ht, hf⟩ := q2
  obtain rfl := Vals.ref1 r1
  obtain ⟨w1, rfl, e1⟩ := vals1 r2
  obtain rfl : w1 = Value.ref q := e1
  rw [hks]
  have cc := cp I2.ok
  refine kmin_run (keys := keys) I2 hr.hd (by have := hr.un; show X.A.units + 1 < cLine; omega) hL hne (fun pins' i x u H3 s3 hx rx sm J => ?_) hf
  have C : CellsAt (mk c').cl fr (js.map (slotAt σ)) s3.heap H3 := by
    rw [hcl c']
    exact cells_of J cc
  refine wpAny_call (codeAny_mono ((L q c').run X.A.in1 X.stack s3 H3 [u] [x] _ _ (Room.in1 (hr.mono hk)) J.env0.in1 (sm _ _ hq) (sm _ _ hc) C (.cons rx .nil) (ht i x H3 hx sm)) fun r s' hq => ?_)
  cases r with
  | error e => exact (show False from hq).elim
  | ok fl =>
    cases fl with
    | ret u =>
      obtain ⟨v, H4, J4, rv, t, rfl, sm4, ht4⟩ := J.after hq
      exact ⟨H4, t, J4, rv, sm4, ht4⟩
    | next => exact False.elim hq
    | brk => exact False.elim hq
    | cont => exact False.elim hq
end K29
namespace K29
open PySem PySem.Spec PyProof.Rows L2
section
variable {P : Program} {w : World} {K : PySem.W.Frag} {mg : Str → Option Value} {base : Heap}
def spReduced : Sp := fun vs H Q _ => ∃ a : Int, vs = [.int a, .int 0] ∧ Q (.int a) H
theorem cal_reduced (D : DefAt K mg "reduced_number" sreduced_number) : C8.Cal P w K mg base 1 "reduced_number" spReduced [] := by
  refine D.cal screduced_number (fun _ _ _ _ _ _ us hl => match us, hl with | [_, _], _ => rfl) (fun vs H Q E h => ?_) (fun f cdv A outer s H vs Q E hr h => ?_)
  · obtain ⟨a, rfl, _⟩ := h
    rfl
  · obtain ⟨a, rfl, k⟩ := h
    refine ⟨_, pss_one (ps_ret (pe_ifExp (pt_cmpR op_gt (pv 1) pe_int (nomark _)) (pe_op op_mod (pv 0) (pv 1)) (pv 0))), ?_⟩
    exact ⟨_, rfl, _, _, rfl, rfl, _, rfl, iteF ⟨_, rfl, k⟩⟩
def spIsInt : Sp := fun vs H Q _ => ∃ a : Int, vs = [.int a] ∧ Q (.bl true) H
theorem cal_isint (G : Bn mg) (D : DefAt K mg "is_integer" sis_integer) : C8.Cal P w K mg base 1 "is_integer" spIsInt [] := by
  refine D.cal scis_integer (fun _ _ _ _ _ _ us hl => match us, hl with | [_], _ => rfl) (fun vs H Q E h => ?_) (fun f cdv A outer s H vs Q E hr h => ?_)
  · obtain ⟨a, rfl, _⟩ := h
    rfl
  · obtain ⟨a, rfl, k⟩ := h
    refine ⟨_, pss_one (ps_ret (pe_and (pe_callB call_isi (by rfl) G.isinstance (by decide +kernel) (pa_cons (pv 0) (pa_cons (pe_bltn (v := .ty "int") (by rfl) G.int (by decide +kernel) rfl) pa_nil))) (pe_one (pe_not (pe_callB call_isi (by rfl) G.isinstance (by decide +kernel) (pa_cons (pv 0) (pa_cons (pe_bltn (v := .ty "bool") (by rfl) G.bool (by decide +kernel) rfl) pa_nil))))))), ?_⟩
    refine ⟨_, rfl, _, _, _, _, true, rfl, .ty _, .base (.int a), kit_ty (by decide +kernel), _, rfl, iteT ?_⟩
    exact ⟨_, rfl, _, _, _, _, false, rfl, .ty _, .base (.int a), kit_ty (by decide +kernel), _, rfl, k⟩
def spWithin : Sp := fun vs H Q _ => ∃ a l m : Int, vs = [.int a, .int l, .int m] ∧ Q (.bl (decide (l ≤ a ∧ a ≤ m))) H
theorem cal_within (c : C8.Cal P w K mg base 1 "is_integer" spIsInt []) (D : DefAt K mg "is_within" sis_within) : C8.Cal P w K mg base 2 "is_within" spWithin [] := by
  refine D.cal scis_within (fun _ _ _ _ _ _ us hl => match us, hl with | [_, _, _], _ => rfl) (fun vs H Q E h => ?_) (fun f cdv A outer s H vs Q E hr h => ?_)
  · obtain ⟨a, l, m, rfl, _⟩ := h
    rfl
  · obtain ⟨a, l, m, rfl, k⟩ := h
    refine ⟨_, pss_one (ps_ret (pe_and (C8.pe_c c hr (by decide) (by rfl) (pa_cons (pv 0) pa_nil)) (pe_one (pe_chain op_le op_le (pv 1) (pv 0) (pv 2))))), ?_⟩
    refine ⟨_, rfl, a, rfl, _, rfl, iteT ⟨_, rfl, _, rfl, _, _, rfl, rfl, _, rfl, ite2 (fun e => ⟨_, rfl, _, _, rfl, rfl, ?_⟩) (fun e => ?_)⟩⟩
    · have e1 : l ≤ a := of_decide_eq_true e
      exact blQ k (by simp [e1])
    · have e1 : ¬ l ≤ a := fun z => e (decide_eq_true z)
      exact blQ k (by simp [e1])
end
end K29
namespace K29
open PySem PySem.Spec PyProof.Rows L2
section
variable {P : Program} {w : World} {K : PySem.W.Frag} {mg : Str → Option Value} {base : Heap}
/-- the pool holds two numbers, the first not negative, the second small -/
def Pool (H : Hp) (p : Addr) : Prop := ∃ a b : Int, H p = some (.lst [.int a, .int b]) ∧ 0 ≤ a ∧ 0 ≤ b ∧ b ≤ 2147483647
/-- all but the pool is as it was -/
def SameP (p : Addr) (H H' : Hp) : Prop := ∀ b o, b ≠ p → H b = some o → H' b = some o
theorem SameP.refl (p : Addr) (H : Hp) : SameP p H H := fun _ _ _ h => h
theorem SameP.trans {p : Addr} {H H1 H2 : Hp} (a : SameP p H H1) (b : SameP p H1 H2) : SameP p H H2 := fun c o n h => b c o n (a c o n h)
theorem SameP.upd (p : Addr) (H : Hp) (o : HO) : SameP p H (upd H p o) := fun b u n h => by
  rw [upd_ne n]
  exact h
theorem SameP.of {p : Addr} {H H' : Hp} (e : Same H H') : SameP p H H' := fun b o _ h => e b o h
theorem SameP.same {p : Addr} {H0 H H' : Hp} (e : Same H0 H) (h : H0 p = none) (f : SameP p H H') : Same H0 H' := fun b o q => f b o (ne_of_none q h) (e b o q)
theorem SameP.list {K : PySem.W.Frag} {p a : Addr} {H H' : Hp} {xs : List V} (e : SameP p H H') (h : SqL K H a xs) (n : a ≠ p) : SqL K H' a xs := by
  rcases h with (h | ⟨o, h⟩) | h
  · exact .inl (.inl (e _ _ n h))
  · exact .inl (.inr ⟨o, e _ _ n h⟩)
  · exact .inr h
theorem lst_ne {H : Hp} {a p : Addr} {o : HO} {xs : List V} (h : H a = some (.lst xs)) (h' : H p = some o) (n : o ≠ .lst xs) : a ≠ p := fun e => by
  rw [e, h'] at h
  exact n (Option.some.inj h)
def spTake : Sp := fun vs H Q _ => ∃ (p : Addr) (n : Int), vs = [.ref p, .int n] ∧ Pool H p ∧ 0 < n ∧ n ≤ 10 ^ 18 ∧ ∀ (v : Int) (H' : Hp), 0 ≤ v → v < n → Pool H' p → SameP p H H' → Q (.int v) H'
theorem cal_take (D : DefAt K mg "_law_take" slaw_take) : C8.Cal P w K mg base 1 "_law_take" spTake [] := by
  refine D.cal sclaw_take (fun _ _ _ _ _ _ us hl => match us, hl with | [_, _], _ => rfl) (fun vs H Q E h => ?_) (fun f cdv A outer s H vs Q E hr h => ?_)
  · obtain ⟨a, n, rfl, _⟩ := h
    rfl
  · obtain ⟨p, n, rfl, ⟨a, b, hp, ha, hb, hb2⟩, hn, hn2, k⟩ := h
    refine ⟨_, (pss_cons (ps_if (pt_cmpR op_gt (pe_ix ix_list (pv 0) pe_int (fun _ _ => rfl)) pe_int (nomark _))
  (pss_cons (ps_set (i := 2) sclaw_take.nd rfl (Or.inl rfl) (pe_op op_mod (pe_ix ix_list (pv 0) pe_int (fun _ _ => rfl)) (pv 1)))
    (pss_cons (ps_asg (pe_op op_fdivW (pe_ix ix_list (pv 0) pe_int (fun _ _ => rfl)) (pv 1)) (pg_sub (pv 0) pe_int set_list))
    (pss_one (ps_ret (pv 2)))))
  pss_nil)
  (pss_cons (ps_asg (pe_op op_mod (pe_op op_add (pe_op op_mul (pe_ix ix_list (pv 0) pe_int (fun _ _ => rfl)) pe_int) pe_int) pe_int) (pg_sub (pv 0) pe_int set_list))
  (pss_one (ps_ret (pe_op op_mod (pe_op op_fdivW (pe_op op_mod (pe_op op_mul (pe_ix ix_list (pv 0) pe_int (fun _ _ => rfl)) (pe_ix ix_list (pv 0) pe_int (fun _ _ => rfl))) pe_int) pe_int) (pv 1)))))), ?_⟩
    have e0 : atI [V.int a, V.int b] 0 = some (.int a) := atI_nat (j := 0) rfl
    have e1 : atI [V.int a, V.int b] 1 = some (.int b) := atI_nat (j := 1) rfl
    have i0 : ixN [V.int a, V.int b].length 0 = some 0 := (by decide : ixN 2 0 = some 0)
    have i1 : ixN [V.int a, V.int b].length 1 = some 1 := (by decide : ixN 2 1 = some 1)
    refine ⟨_, rfl, p, _, _, _, rfl, rfl, SqL.of hp, e0, _, _, rfl, rfl, _, rfl, ite2 (fun _ => ?_) (fun _ => ?_)⟩
    · refine ⟨_, rfl, p, _, _, _, rfl, rfl, SqL.of hp, e0, _, rfl, _, _, rfl, rfl, hn, ?_⟩
      refine ⟨_, rfl, p, _, _, _, rfl, rfl, SqL.of hp, e0, _, rfl, _, _, rfl, rfl, wide_div (b := 61) hn (by omega) (by decide) (by decide), ?_⟩
      refine ⟨_, rfl, p, _, _, _, rfl, rfl, hp, i0, _, rfl, ?_⟩
      exact k _ _ (Int.emod_nonneg _ (by omega)) (Int.emod_lt_of_pos _ hn) ⟨_, _, upd_same, Int.ediv_nonneg ha (by omega), hb, hb2⟩ (SameP.upd _ _ _)
    · refine ⟨_, rfl, p, _, _, _, rfl, rfl, SqL.of hp, e1, _, _, rfl, rfl, .inr ⟨by decide, by decide⟩, _, _, rfl, rfl, _, _, rfl, rfl, (by show (0 : Int) < 2147483647; decide), ?_⟩
      refine ⟨_, rfl, p, _, _, _, rfl, rfl, hp, i1, ?_⟩
      have hm1 : 0 ≤ (b * 48271 + 11) % 2147483647 := Int.emod_nonneg _ (by decide)
      have hm2 : (b * 48271 + 11) % 2147483647 < 2147483647 := Int.emod_lt_of_pos _ (by decide)
      have e2 : atI ([V.int a, V.int b].set 1 (.int ((b * 48271 + 11) % 2147483647))) 1 = some (.int ((b * 48271 + 11) % 2147483647)) := atI_nat (j := 1) rfl
      refine ⟨_, rfl, p, _, _, _, rfl, rfl, SqL.of upd_same, e2, _, rfl, p, _, _, _, rfl, rfl, SqL.of upd_same, e2, _, _, rfl, rfl, .inl ⟨by omega, by omega⟩, _, _, rfl, rfl, (by show (0 : Int) < 2147483629; decide), ?_⟩
      refine ⟨_, _, rfl, rfl, wide_div (b := 61) (by decide) (by decide) (by decide) (by decide), _, rfl, _, _, rfl, rfl, hn, ?_⟩
      exact k _ _ (Int.emod_nonneg _ (by omega)) (Int.emod_lt_of_pos _ hn) ⟨_, _, upd_same, ha, hm1, by omega⟩ (SameP.upd _ _ _)
end
end K29
namespace K29
open PySem PySem.Spec PyProof.Rows L2
theorem Paired.take {α β : Type} {F : α → β → Prop} : ∀ {xs : List α} {ys : List β} (i : Nat), Paired F xs ys → Paired F (xs.take i) (ys.take i)
  | _, _, _, .nil => by simp; exact .nil
  | _, _, 0, .cons _ _ => by simp; exact .nil
  | _, _, i + 1, .cons r t => by
    rw [List.take_succ_cons, List.take_succ_cons]
    exact .cons r (Paired.take i t)
/-- a comprehension over a list of told data that makes new objects -/
theorem lc_new {β γ : Type} {K : PySem.W.Frag} {a : Addr} {xs : List V} {ys : List β} {Rl : V → β → Prop} {g : TG} {tt : TT} {te : TE} {vs : List Nat} {σ : L2.St} {H1 : Hp} {D : Addr} {Qd : Hp → Prop} (G : β → γ) (Rn : Hp → V → γ → Prop) (hS : SqL K H1 a xs) (hP : Paired Rl xs ys) (hD : H1 D = none) (hz : xs.length ≤ sizeLine)
    (mono : ∀ H H' v z, SameP D H H' → Rn H v z → Rn H' v z)
    (hs : ∀ (i : Nat) (x : V) (y : β) (H : Hp) (R : VK) (N : Hp → Prop), xs[i]? = some x → ys[i]? = some y → Rl x y → Same H1 H → (∃ acc, H D = some (.lst acc)) → (∀ v H', Same H H' → Rn H' v (G y) → R v H') →
      g x (wipe σ vs) H fun σ2 H2 => wipe σ2 vs = wipe σ vs ∧ tt σ2 H2 fun b H3 => if b = true then te σ2 H3 R else N H3)
    (hd : ∀ H' acc, Same H1 H' → H' D = some (.lst acc) → Paired (Rn H') acc (ys.map G) → Qd H') :
    ∃ W : Nat → Nat → Hp → Prop, (∃ m, W 0 m (upd H1 D (.lst []))) ∧ ∀ i m H, W i m H →
      ((Itl K a).stop i H ∧ Qd H) ∨ ((Itl K a).go i H ∧ ∃ Nx : Hp → Prop, (∀ H', Nx H' → ∃ m', m' < m ∧ W (i + 1) m' H') ∧ ∀ x H', (Itl K a).yld i H x H' → g x (wipe σ vs) H' fun σ2 H2 => wipe σ2 vs = wipe σ vs ∧ tt σ2 H2 fun b H3 =>
        if b = true then te σ2 H3 fun y H4 => ∃ acc, H4 D = some (.lst acc) ∧ acc.length < sizeLine ∧ Nx (upd H4 D (.lst (acc ++ [y]))) else Nx H3) := by
  have hl : xs.length = ys.length := Paired.length hP
  refine lc_list (xs := xs) (fun i H => Same H1 H ∧ ∃ acc, H D = some (.lst acc) ∧ Paired (Rn H) acc ((ys.take i).map G)) ⟨same_upd hD, [], upd_same, by rw [List.take_zero]; exact .nil⟩ (fun i H _ e => Same.seq e.1 hS) (fun i x H hx e => ?_) (fun H e => ?_)
  · obtain ⟨s1, acc, hA, hR⟩ := e
    obtain ⟨y, hy, hr⟩ := Paired.at' hP hx
    have hi : i < ys.length := (List.getElem?_eq_some_iff.mp hy).1
    refine hs i x y H _ _ hx hy hr s1 ⟨acc, hA⟩ (fun v H' s2 hn => ?_)
    refine ⟨acc, s2 _ _ hA, ?_, fun c o h => ?_, acc ++ [v], upd_same, ?_⟩
    · rw [Paired.length hR, List.length_map, List.length_take]
      omega
    · rw [upd_ne (ne_of_none h hD)]
      exact s2 _ _ (s1 _ _ h)
    · rw [List.take_add_one, hy, List.map_append]
      have sp : SameP D H' (upd H' D (.lst (acc ++ [v]))) := SameP.upd D H' _
      refine Paired.app (Paired.mapP hR fun u z h => mono _ _ _ _ ((SameP.of s2).trans sp) h) (.cons (mono _ _ _ _ sp hn) .nil)
  · obtain ⟨s1, acc, hA, hR⟩ := e
    rw [hl, List.take_length] at hR
    exact hd H acc s1 hA hR
end K29
namespace K29
open PySem PySem.Spec PyProof.Rows L2
section
variable {P : Program} {w : World} {K : PySem.W.Frag} {mg : Str → Option Value} {base : Heap}
def spPool (K : PySem.W.Frag) : Sp := fun vs H Q _ => ∃ (a : Addr) (ns : List Int) (k : Nat), vs = [.ref a, .int (k : Int)] ∧ SqL K H a (ns.map V.int) ∧ k < 4 ∧ ∀ (p : Addr) (H' : Hp), H p = none → Same H H' → Pool H' p → Q (.ref p) H'
theorem cal_pool (G : Bn mg) (D : DefAt K mg "_law_pool" slaw_pool) : C8.Cal P w K mg base 1 "_law_pool" (spPool K) [] := by
  refine D.cal sclaw_pool (fun _ _ _ _ _ _ us hl => match us, hl with | [_, _], _ => rfl) (fun vs H Q E h => ?_) (fun f cdv A outer s H vs Q E hr h => ?_)
  · obtain ⟨a, n, k, rfl, _⟩ := h
    rfl
  · obtain ⟨a, ns, k, rfl, hS, hk, q⟩ := h
    refine ⟨_, (pss_cons (ps_set (i := 2) sclaw_pool.nd rfl (Or.inl rfl) pe_int)
  (C8.pss_cut (ps_if (pt_cmpR op_lt (pv 1) (pe_callB call_len_seq (by rfl) G.len (by decide +kernel) (pa_cons (pv 0) pa_nil)) (nomark _))
  (pss_one (ps_set (i := 2) sclaw_pool.nd rfl (Or.inl rfl) (pe_ix ix_list (pv 0) (pv 1) (fun _ _ => rfl))))
  pss_nil)
  (pss_cons (ps_set (i := 3) sclaw_pool.nd rfl (Or.inl rfl) (pe_op op_mod (pe_op op_mul (pe_op op_add (pe_op op_add (pe_op op_mod (pv 2) pe_int) (pe_op op_mul (pe_op op_mul pe_int (pv 1)) (pv 1))) pe_int) pe_int) pe_int))
  (C8.pss_cut (ps_if (pt_cmpR op_lt (pv 2) (pe_op op_pow pe_int pe_int) (nomark _))
  (pss_one (ps_set (i := 2) sclaw_pool.nd rfl (Or.inl rfl) pe_int))
  pss_nil)
  (pss_one (ps_ret (pe_lst (pa_cons (pv 2) (pa_cons (pe_op op_add (pe_op op_mod (pe_op op_mul (pv 3) (pv 3)) pe_int) pe_int) pa_nil))))))))), ?_⟩
    refine ⟨fun σ H' => H' = H ∧ ∃ c : Int, σ = [some (.ref a), some (.int k), some (.int c), none], ?_, ?_⟩
    · refine ⟨_, rfl, .ref a, rfl, a, _, rfl, .inl hS, _, _, rfl, rfl, _, rfl, ite2 (fun e => ?_) (fun _ => ⟨rfl, _, rfl⟩)⟩
      have hlt : k < ns.length := by
        have e1 : (k : Int) < ((ns.map V.int).length : Int) := of_decide_eq_true e
        rw [List.length_map] at e1
        omega
      exact ⟨_, rfl, _, rfl, a, _, _, _, rfl, rfl, hS, atI_int (getD_at hlt), rfl, _, rfl⟩
    · rintro σ H' ⟨rfl, c, rfl⟩
      refine ⟨_, rfl, _, _, rfl, rfl, (by show (0 : Int) < 2147483629; decide), _, rfl, _, _, rfl, rfl, .inl ⟨by decide, by decide⟩, _, rfl, _, _, rfl, rfl, .inr ⟨by omega, by omega⟩, _, _, rfl, rfl, _, _, rfl, rfl, _, _, rfl, rfl, .inr ⟨by decide, by decide⟩, _, _, rfl, rfl, (by show (0 : Int) < 2147483647; decide), ?_⟩
      obtain ⟨sd, hsd⟩ : ∃ sd : Int, (c % 2147483629 + 7919 * (k : Int) * (k : Int) + 13) * 48271 % 2147483647 = sd := ⟨_, rfl⟩
      have s0 : 0 ≤ sd := by rw [← hsd]; exact Int.emod_nonneg _ (by decide)
      have s1 : sd < 2147483647 := by rw [← hsd]; exact Int.emod_lt_of_pos _ (by decide)
      refine ⟨fun σ H'' => H'' = H' ∧ ∃ c : Int, 0 ≤ c ∧ σ = [some (.ref a), some (.int k), some (.int c), some (.int sd)], ?_, ?_⟩
      · refine ⟨_, rfl, _, _, rfl, rfl, ⟨by decide, by decide, by decide⟩, _, _, rfl, rfl, _, rfl, ite2 (fun _ => ⟨rfl, 0, by decide, by rw [← hsd]; rfl⟩) (fun e => ⟨rfl, c, ?_, by rw [← hsd]; rfl⟩)⟩
        have e1 : ¬ c < 10 ^ (18 : Int).toNat := fun z => e (decide_eq_true z)
        have e2 : (10 : Int) ^ (18 : Int).toNat = 1000000000000000000 := by decide
        omega
      · rintro σ H'' ⟨rfl, c, c0, rfl⟩
        refine ⟨_, rfl, _, rfl, _, rfl, _, _, rfl, rfl, .inl ⟨by omega, by omega⟩, _, _, rfl, rfl, (by show (0 : Int) < 2147483587; decide), _, _, rfl, rfl, (by show 2 ≤ sizeLine; decide), fun p hp => ?_⟩
        have m0 : 0 ≤ sd * sd % 2147483587 := Int.emod_nonneg _ (by decide)
        have m1 : sd * sd % 2147483587 < 2147483587 := Int.emod_lt_of_pos _ (by decide)
        exact q p _ hp (same_upd hp) ⟨_, _, upd_same, c0, by omega, by omega⟩
theorem Pool.keep {p : Addr} {H H' : Hp} (h : Pool H p) (e : Same H H') : Pool H' p := by
  obtain ⟨a, b, h1, h2⟩ := h
  exact ⟨a, b, e _ _ h1, h2⟩
theorem Pool.tups {p : Addr} {H H' : Hp} (h : Pool H p) (e : SameP p H H') : Tups H H' := fun b xs q => by
  obtain ⟨x, y, h1, _⟩ := h
  exact e b _ (ne_of q h1 (by intro z; cases z)) q
theorem Pool.ne {p l : Addr} {H : Hp} (h : Pool H p) (e : H l = none) : l ≠ p := fun z => by
  obtain ⟨x, y, h1, _⟩ := h
  rw [z, h1] at e
  cases e
theorem Pool.upd {p l : Addr} {H : Hp} {o : HO} (h : Pool H p) (n : p ≠ l) : Pool (upd H l o) p := by
  obtain ⟨x, y, h1, r⟩ := h
  exact ⟨x, y, by rw [upd_ne n]; exact h1, r⟩
theorem Pool.there {p : Addr} {H : Hp} (h : Pool H p) : ∃ o, H p = some o := let ⟨_, _, e, _⟩ := h; ⟨_, e⟩
def spLinks : Sp := fun vs H Q _ => ∃ (p : Addr) (n : Nat), vs = [.ref p, .int n, .int 18] ∧ Pool H p ∧ 0 < n ∧ n ≤ 12 ∧
  ∀ (l : Addr) (H' : Hp) (es : List (Nat × Nat)), H l = none → SameP p H H' → Pool H' p → es.length ≤ 18 → (∀ e ∈ es, e.1 < n ∧ e.2 < n) → EdgesAt H' l es → Q (.ref l) H'
theorem cal_links (G : Bn mg) (ct : C8.Cal P w K mg base 1 "_law_take" spTake []) (D : DefAt K mg "_law_links" slaw_links) : C8.Cal P w K mg base 2 "_law_links" spLinks [] := by
  refine D.cal sclaw_links (fun _ _ _ _ _ _ us hl => match us, hl with | [_, _, _], _ => rfl) (fun vs H Q E h => ?_) (fun f cdv A outer s H vs Q E hr h => ?_)
  · obtain ⟨p, n, rfl, _⟩ := h
    rfl
  · obtain ⟨p, n, rfl, hp, hn, hn2, q⟩ := h
    refine ⟨_, (pss_cons (ps_set (i := 3) sclaw_links.nd rfl (Or.inl rfl) (pe_lst pa_nil))
  (pss_cons (ps_for PassesOwn.never rfl (pi_range1 (by rfl) G.range (pa_cons (C8.pe_c ct hr (by decide) (by rfl) (pa_cons (pv 0) (pa_cons (pe_op op_add (pv 2) pe_int) pa_nil))) pa_nil)) (pg_name (i := 4) sclaw_links.nd rfl (Or.inl rfl))
  (pss_one (ps_expr (pe_bm PySem.F.plainAttrs_list PySem.F.slot_list_append PySem.F.type_list_append mt_append (pv 3) (pa_cons (pe_tup (pa_cons (C8.pe_c ct hr (by decide) (by rfl) (pa_cons (pv 0) (pa_cons (pv 1) pa_nil))) (pa_cons (C8.pe_c ct hr (by decide) (by rfl) (pa_cons (pv 0) (pa_cons (pv 1) pa_nil))) pa_nil))) pa_nil)))))
  (pss_one (ps_ret (pv 3))))), ?_⟩
    refine ⟨Nat.zero_le _, fun l hl => ?_⟩
    have nl : l ≠ p := hp.ne hl
    have hp1 : Pool (upd H l (.lst [])) p := hp.upd nl.symm
    refine ⟨_, rfl, _, rfl, _, _, rfl, rfl, p, _, rfl, hp1, (by decide : (0 : Int) < 18 + 1), (by decide : (18 : Int) + 1 ≤ 10 ^ 18), fun v H1 v0 v1 hp2 s1 => ?_⟩
    have v2 : v < 19 := v1
    refine ⟨v, rfl, by omega, by omega, for_range (lo := 0) (n := v.toNat) (fun i σ H2 => ∃ (es : List (Nat × Nat)) (o : Option V), σ = [some (.ref p), some (.int n), some (.int 18), some (.ref l), o] ∧ es.length = i ∧ (∀ e ∈ es, e.1 < n ∧ e.2 < n) ∧ EdgesAt H2 l es ∧ Pool H2 p ∧ SameP p H H2)
      ⟨[], none, rfl, rfl, (by simp), ⟨[], s1 _ _ nl upd_same, .nil⟩, hp2, (SameP.of (same_upd hl)).trans s1⟩ ?_ ?_⟩
    · rintro i σ H2 hi ⟨es, o, rfl, le, he, ⟨vs, hL, hE⟩, hp3, s2⟩
      refine ⟨_, rfl, .inl ⟨rfl, _, SqL.of hL⟩, ?_⟩
      refine ⟨_, rfl, _, rfl, p, _, rfl, hp3, (by omega), (by omega), fun v1 H3 a0 a1 hp4 s3 => ?_⟩
      refine ⟨_, rfl, _, rfl, p, _, rfl, hp4, (by omega), (by omega), fun v2 H4 b0 b1 hp5 s4 => ?_⟩
      refine ⟨(by show 2 ≤ sizeLine; decide), fun t ht => ?_⟩
      have hL4 : H4 l = some (.lst vs) := s4 _ _ nl (s3 _ _ nl hL)
      have nlt : l ≠ t := ne_of_none hL4 ht
      have npt : p ≠ t := (hp5.ne ht).symm
      have hL5 : upd H4 t (.tup [.int v1, .int v2]) l = some (.lst vs) := by rw [upd_ne nlt]; exact hL4
      have lv : vs.length = i := by rw [Paired.length hE, le]
      refine ⟨l, _, _, rfl, rfl, hL5, Nat.lt_of_le_of_lt (show vs.length ≤ 1000 by omega) (by decide), ?_⟩
      have tt : Tups H2 (upd (upd H4 t (.tup [.int v1, .int v2])) l (.lst (vs ++ [.ref t]))) := ((hp3.tups s3).trans (hp4.tups s4)).trans ((Tups.updN ht).trans (Tups.updL hL5))
      refine ⟨es ++ [(v1.toNat, v2.toNat)], _, rfl, by simp [le], fun e he2 => ?_, ⟨_, upd_same, Paired.app (Paired.mapP hE fun v x => PairR.mono tt) (.cons ⟨t, rfl, ?_⟩ .nil)⟩, (hp5.upd npt).upd nl.symm, ?_⟩
      · rcases List.mem_append.mp he2 with z | z
        · exact he e z
        · rw [List.mem_singleton.mp z]
          exact ⟨by show v1.toNat < n; omega, by show v2.toNat < n; omega⟩
      · rw [upd_ne nlt.symm, upd_same]
        show some (HO.tup [.int v1, .int v2]) = some (HO.tup [.int (v1.toNat : Int), .int (v2.toNat : Int)])
        rw [Int.toNat_of_nonneg a0, Int.toNat_of_nonneg b0]
      · refine fun b o n h => ?_
        rw [upd_ne (ne_of_none h hl), upd_ne (fun z => ?_)]
        · exact s4 _ _ n (s3 _ _ n (s2 _ _ n h))
        · have h4 := s4 _ _ n (s3 _ _ n (s2 _ _ n h))
          rw [z, ht] at h4
          cases h4
    · rintro σ H2 ⟨es, o, rfl, le, he, hE, hp3, s2⟩
      exact ⟨_, rfl, q l H2 es hl s2 hp3 (by omega) he hE⟩
end
end K29
namespace K29
open PySem PySem.Spec PyProof.Rows L2
section
variable {P : Program} {w : World} {K : PySem.W.Frag} {mg : Str → Option Value} {base : Heap}
def spNumber : Sp := fun vs H Q _ => ∃ (p : Addr), vs = [.ref p, .int 0] ∧ Pool H p ∧ ∀ (v : Int) (H' : Hp), Pool H' p → SameP p H H' → Q (.int v) H'
theorem cal_number (ct : C8.Cal P w K mg base 1 "_law_take" spTake []) (D : DefAt K mg "_law_number" slaw_number) : C8.Cal P w K mg base 2 "_law_number" spNumber [] := by
  refine D.cal sclaw_number (fun _ _ _ _ _ _ us hl => match us, hl with | [_, _], _ => rfl) (fun vs H Q E h => ?_) (fun f cdv A outer s H vs Q E hr h => ?_)
  · obtain ⟨p, rfl, _⟩ := h
    rfl
  · obtain ⟨p, rfl, hp, q⟩ := h
    refine ⟨_, (pss_cons (ps_if (pt_cmpR op_gt (pv 1) pe_int (nomark _)) pss_never pss_nil)
  (pss_one (ps_ret (pe_ix ix_list (pe_lst (pa_cons (pe_op op_sub (C8.pe_c ct hr (by decide) (by rfl) (pa_cons (pv 0) (pa_cons pe_int pa_nil))) pe_int) (pa_cons pe_int (pa_cons (pe_op op_sub (C8.pe_c ct hr (by decide) (by rfl) (pa_cons (pv 0) (pa_cons (pe_op op_pow pe_int pe_int) pa_nil))) (pe_op op_mul pe_int (pe_op op_pow pe_int pe_int))) pa_nil)))) (C8.pe_c ct hr (by decide) (by rfl) (pa_cons (pv 0) (pa_cons pe_int pa_nil))) (fun _ _ => rfl))))), ?_⟩
    refine ⟨_, rfl, _, _, rfl, rfl, _, rfl, iteF ?_⟩
    refine ⟨_, rfl, p, 9, rfl, hp, by decide, by decide, fun v1 H1 a0 a1 hp1 s1 => ⟨_, _, rfl, rfl, ?_⟩⟩
    refine ⟨_, rfl, _, _, rfl, rfl, ⟨by decide, by decide, by decide⟩, p, _, rfl, hp1, (by decide), (by decide), fun v2 H2 b0 b1 hp2 s2 => ?_⟩
    refine ⟨_, _, rfl, rfl, ⟨by decide, by decide, by decide⟩, _, _, rfl, rfl, .inl ⟨by decide, by decide⟩, _, _, rfl, rfl, (by show 3 ≤ sizeLine; decide), fun l hl => ?_⟩
    have nl : l ≠ p := hp2.ne hl
    refine ⟨_, rfl, p, 3, rfl, hp2.upd nl.symm, by decide, by decide, fun v3 H3 c0 c1 hp3 s3 => ?_⟩
    have e3 := s3 _ _ nl upd_same
    have fin : SameP p H H3 := fun b o n h => by
      have h2 := s2 _ _ n (s1 _ _ n h)
      exact s3 _ _ n (by rw [upd_ne (ne_of_none h2 hl)]; exact h2)
    obtain ⟨j, rfl⟩ : ∃ j : Nat, v3 = j := ⟨v3.toNat, (Int.toNat_of_nonneg c0).symm⟩
    have hj : j < 3 := by omega
    rcases j with _ | _ | _ | j
    · exact ⟨_, _, _, _, rfl, rfl, SqL.of e3, atI_nat (j := 0) rfl, q _ _ hp3 fin⟩
    · exact ⟨_, _, _, _, rfl, rfl, SqL.of e3, atI_nat (j := 1) rfl, q _ _ hp3 fin⟩
    · exact ⟨_, _, _, _, rfl, rfl, SqL.of e3, atI_nat (j := 2) rfl, q _ _ hp3 fin⟩
    · omega
def spNumbers : Sp := fun vs H Q _ => ∃ (p : Addr) (n : Nat), vs = [.ref p, .int 0, .int n] ∧ Pool H p ∧ n ≤ 18 ∧ ∀ (l : Addr) (H' : Hp) (ns : List Int), H l = none → Pool H' p → SameP p H H' → ns.length = n → IntsAt H' l ns → Q (.ref l) H'
theorem cal_numbers (G : Bn mg) (cn : C8.Cal P w K mg base 2 "_law_number" spNumber []) (D : DefAt K mg "_law_numbers" slaw_numbers) : C8.Cal P w K mg base 3 "_law_numbers" spNumbers [] := by
  refine D.cal sclaw_numbers (fun _ _ _ _ _ _ us hl => match us, hl with | [_, _, _], _ => rfl) (fun vs H Q E h => ?_) (fun f cdv A outer s H vs Q E hr h => ?_)
  · obtain ⟨p, n, rfl, _⟩ := h
    rfl
  · obtain ⟨p, n, rfl, hp, hn, q⟩ := h
    refine ⟨_, (pss_one (ps_ret (pe_lc (own := [("_law_turn", 3)]) rfl sclaw_numbers.nd (pi_range1 (by rfl) G.range (pa_cons (pv 2) pa_nil)) (blkOk_by (N := Nlaw_numbers) (sc := defScope slaw_numbers) (by decide +kernel)) (fun _ _ _ _ _ => (pg_name (i := 3) sclaw_numbers.nd rfl (Or.inl rfl))) (fun _ _ _ _ _ => pts_nil) (fun _ _ _ _ _ => (C8.pe_c cn hr (by decide) (by rfl) (pa_cons (pv 0) (pa_cons (pv 1) pa_nil))))))), ?_⟩
    refine ⟨_, rfl, _, rfl, by omega, by omega, fun D hD => ?_⟩
    have nD : D ≠ p := hp.ne hD
    refine lc_range (lo := 0) (n := n) (fun i H1 => ∃ ns : List Int, ns.length = i ∧ IntsAt H1 D ns ∧ Pool H1 p ∧ SameP p H H1) ⟨[], rfl, upd_same, hp.upd nD.symm, SameP.of (same_upd hD)⟩ (fun i H1 hi hP => ?_) (fun H1 hP => ?_)
    · obtain ⟨ns, hl, hL, hp1, s1⟩ := hP
      refine ⟨rfl, ?_⟩
      refine ⟨_, rfl, _, rfl, p, rfl, hp1, fun v H2 hp2 s2 => ⟨_, s2 _ _ nD hL, ?_, ns ++ [v], by simp [hl], ?_, hp2.upd nD.symm, fun b o n h => ?_⟩⟩
      · rw [List.length_map]
        exact Nat.lt_of_le_of_lt (show ns.length ≤ 1000 by omega) (by decide)
      · show upd H2 D _ D = _
        rw [upd_same, List.map_append] <;> rfl
      · rw [upd_ne (ne_of_none h hD)]
        exact s2 _ _ n (s1 _ _ n h)
    · obtain ⟨ns, hl, hL, hp1, s1⟩ := hP
      exact q D H1 ns hD hp1 s1 hl hL
end
end K29
namespace K29
open PySem PySem.Spec PyProof.Rows L2
section
variable {P : Program} {w : World} {K : PySem.W.Frag} {mg : Str → Option Value} {base : Heap}
def spGroups : Sp := fun vs H Q _ => ∃ (n : Nat) (a : Addr) (es : List (Nat × Nat)), vs = [.int n, .ref a] ∧ EdgesAt H a es ∧ n ≤ 12 ∧ (∀ e ∈ es, e.1 < n ∧ e.2 < n) ∧ ∀ (l : Addr) (H' : Hp), H l = none → Same H H' → GroupsAt H' l (lawGroups n es) → Q (.ref l) H'
theorem cal_groups (G : Bn mg) (D : DefAt K mg "_law_groups" slaw_groups) : C8.Cal P w K mg base 1 "_law_groups" spGroups [] := by
  refine D.cal sclaw_groups (fun _ _ _ _ _ _ us hl => match us, hl with | [_, _], _ => rfl) (fun vs H Q E h => ?_) (fun f cdv A outer s H vs Q E hr h => ?_)
  · obtain ⟨n, a, es, rfl, _⟩ := h
    rfl
  · obtain ⟨n, a, es, rfl, ⟨ws, hA, hE⟩, hn, hes, q⟩ := h
    refine ⟨_, (pss_cons (ps_set (i := 2) sclaw_groups.nd rfl (Or.inr rfl) (pe_listRg rfl (by rfl) G.list (prg_1 (by rfl) G.range (pv 0))))
  (pss_cons (ps_for PassesOwn.never rfl (pi_range1 (by rfl) G.range (pa_cons (pv 0) pa_nil)) (pg_name (i := 3) sclaw_groups.nd rfl (Or.inl rfl))
  (pss_one (ps_for PassesOwn.never rfl (piL K (pv 1)) (pgT K rfl (pgs_cons (pg_name (i := 4) sclaw_groups.nd rfl (Or.inl rfl)) (pgs_cons (pg_name (i := 5) sclaw_groups.nd rfl (Or.inl rfl)) pgs_nil)))
    (pss_cons (ps_set (i := 6) sclaw_groups.nd rfl (Or.inl rfl) (pe_callB (call_min2 rfl) (by rfl) G.min (by decide +kernel) (pa_cons (pe_ix (ixL K) (pv 2) (pv 4) (fun _ _ => rfl)) (pa_cons (pe_ix (ixL K) (pv 2) (pv 5) (fun _ _ => rfl)) pa_nil))))
      (pss_cons (ps_asg (pv 6) (pg_sub (pv 2) (pv 4) set_list))
      (pss_one (ps_asg (pv 6) (pg_sub (pv 2) (pv 5) set_list))))))))
  (pss_one (ps_ret (pe_lc (own := [("_law_first", 7)]) rfl sclaw_groups.nd (pi_range1 (by rfl) G.range (pa_cons (pv 0) pa_nil)) (blkOk_by (N := Nlaw_groups) (sc := defScope slaw_groups) (by decide +kernel)) (fun _ _ _ _ _ => (pg_name (i := 7) sclaw_groups.nd rfl (Or.inr rfl))) (fun _ _ _ _ _ => (pts_one (pt_cmpR (opIn K) (pv 7) (pv 2) (by rfl)))) (fun _ _ _ _ _ => (pe_lc (own := [("_law_node", 8)]) rfl sclaw_groups.nd (pi_range1 (by rfl) G.range (pa_cons (pv 0) pa_nil)) (blkOk_by (by kernel_rfl)) (fun _ _ _ _ _ => (pg_name (i := 8) sclaw_groups.nd rfl (Or.inl rfl))) (fun _ _ _ _ _ => (pts_one (pt_cmpR op_eq (pe_ix (ixL K) (pv 2) (pv 8) (fun _ _ => rfl)) (pv 7) (nomark _)))) (fun _ _ _ _ _ => (pv 8))))))))), ?_⟩
    refine ⟨_, rfl, n, rfl, .of_le (by decide) (by omega) (by decide) (by omega), fun N hN => ?_⟩
    rw [rgV_nodes]
    have nNa : a ≠ N := ne_of_none hA hN
    refine ⟨_, rfl, _, rfl, by omega, by omega, for_range (lo := 0) (n := n) (fun k σ H1 => ∃ o3 o4 o5 o6, σ = [some (nI n), some (.ref a), some (.ref N), o3, o4, o5, o6, none, none] ∧ H1 = upd H N (.lst ((roundsN es k (List.range n)).map nI)))
      ⟨none, none, none, none, rfl, rfl⟩ ?_ ?_⟩
    · rintro k σ H1 hk ⟨o3, o4, o5, o6, rfl, rfl⟩
      have hA1 : upd H N (.lst ((roundsN es k (List.range n)).map nI)) a = some (.lst ws) := by rw [upd_ne nNa]; exact hA
      refine ⟨_, rfl, a, rfl, ⟨_, SqL.of hA1⟩, for_list (K := K) (a := a) (xs := ws) (fun j σ H2 => ∃ o4 o5 o6, σ = [some (nI n), some (.ref a), some (.ref N), some (.int (0 + (k : Int))), o4, o5, o6, none, none] ∧ H2 = upd H N (.lst ((roundN (es.take j) (roundsN es k (List.range n))).map nI)))
        ⟨o4, o5, o6, rfl, by rw [List.take_zero]; rfl⟩ (fun j σ H2 _ hP => ?_) ?_ ?_⟩
      · obtain ⟨_, _, _, _, rfl⟩ := hP
        exact SqL.of (by rw [upd_ne nNa]; exact hA)
      · rintro j x σ H2 hx ⟨o4, o5, o6, rfl, rfl⟩
        obtain ⟨e, he, t, rfl, ht⟩ := Paired.at' hE hx
        have hlen : (roundN (es.take j) (roundsN es k (List.range n))).length = n := by rw [roundN_len, roundsN_len, List.length_range]
        obtain ⟨h1, h2⟩ := hes e (List.mem_of_getElem? he)
        obtain ⟨cur, ecur⟩ : ∃ cur, roundN (es.take j) (roundsN es k (List.range n)) = cur := ⟨_, rfl⟩
        rw [ecur] at hlen ⊢
        have ntN : t ≠ N := ne_of_none ht hN
        have a1 := atI_node (getN_at (g := cur) (i := e.1) (by omega))
        have a2 := atI_node (getN_at (g := cur) (i := e.2) (by omega))
        refine ⟨t, _, rfl, SqT.of (by rw [upd_ne ntN]; exact ht), rfl, _, _, rfl, _, _, rfl, rfl, ?_⟩
        refine ⟨_, rfl, _, rfl, N, _, _, _, rfl, rfl, SqL.of upd_same, a1, _, rfl, _, rfl, N, _, _, _, rfl, rfl, SqL.of upd_same, a2, _, _, rfl, ?_⟩
        refine ⟨_, rfl, _, rfl, _, rfl, N, _, _, e.1, rfl, rfl, upd_same, ixN_nat (by rw [List.length_map]; omega), ?_⟩
        refine ⟨_, rfl, _, rfl, _, rfl, N, _, _, e.2, rfl, rfl, upd_same, ixN_nat (by rw [List.length_set, List.length_map]; omega), ?_⟩
        refine ⟨_, _, _, rfl, ?_⟩
        rw [upd_upd, upd_upd, roundN_take he, ecur]
        have em : V.int (if ((cur.getD e.2 0 : Nat) : Int) < ((cur.getD e.1 0 : Nat) : Int) then ((cur.getD e.2 0 : Nat) : Int) else ((cur.getD e.1 0 : Nat) : Int)) = nI (min (cur.getD e.1 0) (cur.getD e.2 0)) := by
          by_cases hc : cur.getD e.2 0 < cur.getD e.1 0
          · rw [if_pos (by omega), Nat.min_eq_right (by omega)]
          · rw [if_neg (by omega), Nat.min_eq_left (by omega)]
        rw [em]
        unfold nset
        rw [List.map_set, List.map_set]
      · rintro σ H2 ⟨o4, o5, o6, rfl, rfl⟩
        refine ⟨_, _, _, _, rfl, ?_⟩
        rw [Paired.length hE, List.take_length]
        rfl
    · rintro σ H1 ⟨o3, o4, o5, o6, rfl, rfl⟩
      obtain ⟨nm, enm⟩ : ∃ nm, roundsN es n (List.range n) = nm := ⟨_, rfl⟩
      have lnm : nm.length = n := by rw [← enm, roundsN_len, List.length_range]
      rw [enm]
      refine ⟨_, rfl, _, rfl, by omega, by omega, fun l hl => ?_⟩
      have hl0 : H l = none := Same.free (same_upd hN) hl
      refine lc_range (lo := 0) (n := n) (fun i H2 => Same (upd H N (.lst (nm.map nI))) H2 ∧ LstR (GrpN H2 l) H2 l (((List.range i).filter fun f => nm.any fun y => y == f).map (groupOf n nm))) ⟨same_upd hl, ⟨[], upd_same, .nil⟩⟩ (fun i H2 hi hP => ?_) (fun H2 hP => ?_)
      · obtain ⟨s2, vs, hL, hG⟩ := hP
        have hN2 : H2 N = some (.lst (nm.map nI)) := s2 _ _ upd_same
        rw [show (0 : Int) + (i : Int) = ((i : Nat) : Int) by omega]
        refine ⟨rfl, _, rfl, _, rfl, N, _, rfl, .inl (SqL.of hN2), rfl, nodes_flat _, _, rfl, ?_⟩
        have fl : (List.range (i + 1)).filter (fun f => nm.any fun y => y == f) = (List.range i).filter (fun f => nm.any fun y => y == f) ++ (if (nm.any fun y => y == i) = true then [i] else []) := by
          rw [List.range_succ, List.filter_append, List.filter_cons, List.filter_nil]
        show if inV (nI i) (nm.map nI) = true then _ else _
        rw [inV_nodes]
        refine ite2 (fun ht => ?_) (fun hf => ?_)
        · rw [if_pos ht] at fl
          refine ⟨_, rfl, _, rfl, by omega, by omega, fun g hg => ?_⟩
          have ngl : g ≠ l := fun z => by rw [z, hL] at hg; cases hg
          refine lc_fmR (lo := 0) (n := n) (fun v => if nm.getD v 0 == i then some (nI v) else none) (Nat.le_of_lt (small_lt (by omega))) (fun v acc R Nx hv hy hno => ?_) ?_
          · refine ⟨rfl, ?_⟩
            have e1 := atI_node (getN_at (g := nm) (i := v) (by omega))
            rw [show (0 : Int) + (v : Int) = ((v : Nat) : Int) by omega]
            refine ⟨_, rfl, _, rfl, N, _, _, _, rfl, rfl, SqL.of (same_upd hg _ _ hN2), e1, _, rfl, rfl, _, rfl, ?_⟩
            rw [dec_node]
            refine ite2 (fun h1 => ?_) (fun h1 => ?_)
            · exact ⟨_, rfl, hy _ (if_pos (beq_iff_eq.mpr (of_decide_eq_true h1)))⟩
            · exact hno (if_neg (fun z => h1 (decide_eq_true (beq_iff_eq.mp z))))
          · have hL3 : upd H2 g (.lst ((List.range n).filterMap fun v => if nm.getD v 0 == i then some (nI v) else none)) l = some (.lst vs) := by rw [upd_ne ngl.symm]; exact hL
            refine ⟨vs, hL3, small_lt ?_, fun b o h => ?_, ⟨vs ++ [.ref g], upd_same, ?_⟩⟩
            · rw [Paired.length hG, List.length_map]
              have := List.length_filter_le (fun f => nm.any fun y => y == f) (List.range i)
              rw [List.length_range] at this
              omega
            · have nbl : b ≠ l := ne_of_none h hl
              rw [upd_ne nbl, upd_ne (ne_of_none (s2 _ _ h) hg)]
              exact s2 _ _ h
            · rw [fl, List.map_append]
              refine Paired.app (Paired.mapP hG fun v x hx => ?_) (.cons ⟨g, rfl, ngl, ?_⟩ .nil)
              · obtain ⟨b, rfl, nb, hb⟩ := hx
                refine ⟨b, rfl, nb, ?_⟩
                show upd _ l _ b = _
                rw [upd_ne nb, upd_ne (ne_of_none hb hg)]
                exact hb
              · show upd _ l _ g = _
                rw [upd_ne ngl, upd_same, fm_filter]
                rfl
        · rw [if_neg hf, List.append_nil] at fl
          rw [fl]
          exact ⟨s2, vs, hL, hG⟩
      · obtain ⟨s2, vs, hL, hG⟩ := hP
        refine q l H2 hl0 (Same.trans (same_upd hN) s2) ?_
        unfold lawGroups lawNames
        rw [enm]
        exact ⟨vs, hL, Paired.mapP hG fun v x ⟨b, e, _, hb⟩ => ⟨b, e, hb⟩⟩
end
end K29
namespace K29
open PySem PySem.Spec PyProof.Rows L2
section
variable {P : Program} {w : World} {K : PySem.W.Frag} {mg : Str → Option Value} {base : Heap}
def spLowest : Sp := fun vs H Q _ => ∃ (n : Nat) (a pa wa : Addr) (es : List (Nat × Nat)) (p wt : List Int), vs = [.int n, .ref a, .ref pa, .ref wa] ∧ EdgesAt H a es ∧ n ≤ 12 ∧ (∀ e ∈ es, e.1 < n ∧ e.2 < n) ∧ IntsAt H pa p ∧ IntsAt H wa wt ∧ p.length = n ∧ wt.length = n ∧
  ∀ (H' : Hp), Same H H' → Q (.bl (lowest wt p (lawGroups n es))) H'
theorem cal_lowest (G : Bn mg) (cg : C8.Cal P w K mg base 1 "_law_groups" spGroups []) (D : DefAt K mg "_law_lowest" slaw_lowest) : C8.Cal P w K mg base 2 "_law_lowest" spLowest [] := by
  refine D.cal sclaw_lowest (fun _ _ _ _ _ _ us hl => match us, hl with | [_, _, _, _], _ => rfl) (fun vs H Q E h => ?_) (fun f cdv A outer s H vs Q E hr h => ?_)
  · obtain ⟨n, a, pa, wa, es, p, wt, rfl, _⟩ := h
    rfl
  · obtain ⟨n, a, pa, wa, es, p, wt, rfl, hE, hn, hes, hp, hw, lp, lw, q⟩ := h
    refine ⟨_, (pss_cons (ps_for PassesOwn.never rfl (piL K (C8.pe_c cg hr (by decide) (by rfl) (pa_cons (pv 0) (pa_cons (pv 1) pa_nil)))) (pg_name (i := 4) sclaw_lowest.nd rfl (Or.inl rfl))
  (pss_cons (ps_set (i := 5) sclaw_lowest.nd rfl (Or.inl rfl) (pe_callB (cSum K rfl) (by rfl) G.sum (by decide +kernel) (pa_cons (pe_lc (own := [("_law_node", 7)]) rfl sclaw_lowest.nd (piL K (pv 4)) (blkOk_by (N := Nlaw_lowest) (sc := defScope slaw_lowest) (by decide +kernel)) (fun _ _ _ _ _ => (pg_name (i := 7) sclaw_lowest.nd rfl (Or.inl rfl))) (fun _ _ _ _ _ => (pts_one (pt_cmpR op_gt (pe_ix (ixL K) (pv 2) (pv 7) (fun _ _ => rfl)) pe_int (nomark _)))) (fun _ _ _ _ _ => (pe_ix (ixL K) (pv 3) (pv 7) (fun _ _ => rfl)))) pa_nil)))
    (pss_cons (ps_set (i := 6) sclaw_lowest.nd rfl (Or.inl rfl) (pe_callB (cSum K rfl) (by rfl) G.sum (by decide +kernel) (pa_cons (pe_lc (own := [("_law_node", 7)]) rfl sclaw_lowest.nd (piL K (pv 4)) (blkOk_by (N := Nlaw_lowest) (sc := defScope slaw_lowest) (by decide +kernel)) (fun _ _ _ _ _ => (pg_name (i := 7) sclaw_lowest.nd rfl (Or.inl rfl))) (fun _ _ _ _ _ => (pts_one (pt_cmpR op_lt (pe_ix (ixL K) (pv 2) (pv 7) (fun _ _ => rfl)) pe_int (nomark _)))) (fun _ _ _ _ _ => (pe_ix (ixL K) (pv 3) (pv 7) (fun _ _ => rfl)))) pa_nil)))
    (pss_one (ps_if (pt_cmpR op_gt (pe_callB call_abs (by rfl) G.abs (by decide +kernel) (pa_cons (pe_op op_sub (pv 5) (pv 6)) pa_nil)) (pe_op op_sub (pe_op op_sub (pe_callB (cSum K rfl) (by rfl) G.sum (by decide +kernel) (pa_cons (pe_lc (own := [("_law_node", 7)]) rfl sclaw_lowest.nd (piL K (pv 4)) (blkOk_by (N := Nlaw_lowest) (sc := defScope slaw_lowest) (by decide +kernel)) (fun _ _ _ _ _ => (pg_name (i := 7) sclaw_lowest.nd rfl (Or.inl rfl))) (fun _ _ _ _ _ => pts_nil) (fun _ _ _ _ _ => (pe_ix (ixL K) (pv 3) (pv 7) (fun _ _ => rfl)))) pa_nil)) (pv 5)) (pv 6)) (nomark _))
    (pss_one (ps_ret pe_bl))
    pss_nil)))))
  (pss_one (ps_ret pe_bl))), ?_⟩
    refine ⟨_, rfl, _, rfl, n, a, es, rfl, hE, hn, hes, fun l H1 hl s1 hG => ?_⟩
    obtain ⟨gv, hL, hP⟩ := hG
    refine ⟨l, rfl, ⟨_, SqL.of hL⟩, for_list (K := K) (a := l) (xs := gv) (fun i σ H2 => ∃ o4 o5 o6, σ = [some (nI n), some (.ref a), some (.ref pa), some (.ref wa), o4, o5, o6, none] ∧ Same H1 H2 ∧ ((lawGroups n es).take i).all (okG wt p) = true)
      ⟨none, none, none, rfl, Same.refl _, by simp⟩ (fun i σ H2 _ hI => ?_) ?_ ?_⟩
    · obtain ⟨_, _, _, _, s2, _⟩ := hI
      exact Same.seq s2 (SqL.of hL)
    · rintro i x σ H2 hx ⟨o4, o5, o6, rfl, s2, hall⟩
      obtain ⟨g, hg, b, rfl, hb⟩ := Paired.at' hP hx
      have gm : g ∈ lawGroups n es := List.mem_of_getElem? hg
      have glt := groups_lt gm
      have gl := group_len gm
      have hz : g.length ≤ sizeLine := Nat.le_of_lt (small_lt (by omega))
      have hb2 : NodesAt H2 b g := s2 _ _ hb
      have hp2 : IntsAt H2 pa p := s2 _ _ (s1 _ _ hp)
      have hw2 : IntsAt H2 wa wt := s2 _ _ (s1 _ _ hw)
      -- above
      refine ⟨_, rfl, b, rfl, ⟨_, SqL.of hb2⟩, fun d1 hd1 => ?_⟩
      refine lc_fg nI (fun v => if decide (0 < p.getD v 0) = true then some (V.int (wt.getD v 0)) else none) (SqL.of hb2) hd1 hz (fun j v acc R Nx hv hy hno => ?_) ?_
      · have hv' := glt v (List.mem_of_getElem? hv)
        have q1 : upd H2 d1 (.lst acc) pa = some (.lst (p.map V.int)) := same_upd hd1 _ _ hp2
        have q2 : upd H2 d1 (.lst acc) wa = some (.lst (wt.map V.int)) := same_upd hd1 _ _ hw2
        refine ⟨rfl, _, rfl, _, rfl, pa, _, _, _, rfl, rfl, SqL.of q1, atI_int (getD_at (by omega)), _, _, rfl, rfl, _, rfl, ite2 (fun h1 => ?_) (fun h1 => ?_)⟩
        · exact ⟨_, rfl, _, rfl, wa, _, _, _, rfl, rfl, SqL.of q2, atI_int (getD_at (by omega)), hy _ (if_pos h1)⟩
        · exact hno (if_neg h1)
      rw [fm_int]
      refine ⟨d1, _, rfl, SqL.of upd_same, ?_⟩
      have s3 : Same H2 (upd H2 d1 (.lst (((g.filter fun v => decide (0 < p.getD v 0)).map fun v => wt.getD v 0).map V.int))) := same_upd hd1
      generalize upd H2 d1 (.lst (((g.filter fun v => decide (0 < p.getD v 0)).map fun v => wt.getD v 0).map V.int)) = H3 at s3 ⊢
      -- below
      refine ⟨_, rfl, b, rfl, ⟨_, SqL.of (s3 _ _ hb2)⟩, fun d2 hd2 => ?_⟩
      refine lc_fg nI (fun v => if decide (p.getD v 0 < 0) = true then some (V.int (wt.getD v 0)) else none) (SqL.of (s3 _ _ hb2)) hd2 hz (fun j v acc R Nx hv hy hno => ?_) ?_
      · have hv' := glt v (List.mem_of_getElem? hv)
        have q1 : upd H3 d2 (.lst acc) pa = some (.lst (p.map V.int)) := same_upd hd2 _ _ (s3 _ _ hp2)
        have q2 : upd H3 d2 (.lst acc) wa = some (.lst (wt.map V.int)) := same_upd hd2 _ _ (s3 _ _ hw2)
        refine ⟨rfl, _, rfl, _, rfl, pa, _, _, _, rfl, rfl, SqL.of q1, atI_int (getD_at (by omega)), _, _, rfl, rfl, _, rfl, ite2 (fun h1 => ?_) (fun h1 => ?_)⟩
        · exact ⟨_, rfl, _, rfl, wa, _, _, _, rfl, rfl, SqL.of q2, atI_int (getD_at (by omega)), hy _ (if_pos h1)⟩
        · exact hno (if_neg h1)
      rw [fm_int]
      refine ⟨d2, _, rfl, SqL.of upd_same, ?_⟩
      have s4 : Same H3 (upd H3 d2 (.lst (((g.filter fun v => decide (p.getD v 0 < 0)).map fun v => wt.getD v 0).map V.int))) := same_upd hd2
      generalize upd H3 d2 (.lst (((g.filter fun v => decide (p.getD v 0 < 0)).map fun v => wt.getD v 0).map V.int)) = H4 at s4 ⊢
      -- the test
      refine ⟨_, rfl, _, rfl, _, _, rfl, rfl, _, rfl, ?_⟩
      refine ⟨_, rfl, b, rfl, ⟨_, SqL.of (s4 _ _ (s3 _ _ hb2))⟩, fun d3 hd3 => ?_⟩
      refine lc_fg nI (fun v => if (fun _ => true) v = true then some (V.int (wt.getD v 0)) else none) (SqL.of (s4 _ _ (s3 _ _ hb2))) hd3 hz (fun j v acc R Nx hv hy hno => ?_) ?_
      · have hv' := glt v (List.mem_of_getElem? hv)
        have q2 : upd H4 d3 (.lst acc) wa = some (.lst (wt.map V.int)) := same_upd hd3 _ _ (s4 _ _ (s3 _ _ hw2))
        exact ⟨rfl, _, rfl, _, rfl, wa, _, _, _, rfl, rfl, SqL.of q2, atI_int (getD_at (by omega)), hy _ rfl⟩
      rw [fm_int, List.filter_eq_self.mpr (fun _ _ => rfl)]
      refine ⟨d3, _, rfl, SqL.of upd_same, ?_⟩
      have s5 : Same H4 (upd H4 d3 (.lst ((g.map fun v => wt.getD v 0).map V.int))) := same_upd hd3
      generalize upd H4 d3 (.lst ((g.map fun v => wt.getD v 0).map V.int)) = H5 at s5 ⊢
      have s25 : Same H2 H5 := Same.trans s3 (Same.trans s4 s5)
      refine ⟨_, rfl, _, _, rfl, rfl, _, rfl, _, _, rfl, rfl, _, _, rfl, rfl, _, rfl, ?_⟩
      show if decide (wsum wt g - aboveG wt p g - belowG wt p g < absI (aboveG wt p g - belowG wt p g)) = true then _ else _
      refine ite2 (fun h1 => ?_) (fun h1 => ?_)
      · refine blQ (q H5 (Same.trans s1 (Same.trans s2 s25))) ?_
        unfold lowest
        have hb : okG wt p g = false := by unfold okG; rw [h1]; rfl
        refine (Bool.eq_false_iff.mpr fun z => ?_).symm
        rw [List.all_eq_true.mp z g gm] at hb
        cases hb
      · refine ⟨_, _, _, rfl, Same.trans s2 s25, ?_⟩
        rw [List.take_add_one, hg, List.all_append, hall]
        have hb : okG wt p g = true := by unfold okG; rw [Bool.eq_false_iff.mpr h1]; rfl
        simp [hb]
    · rintro σ H2 ⟨o4, o5, o6, rfl, s2, hall⟩
      rw [Paired.length hP, List.take_length] at hall
      exact blQ (q H2 (Same.trans s1 s2)) hall.symm
end
end K29
namespace K29
open PySem PySem.Spec PyProof.Rows L2
section
variable {P : Program} {w : World} {K : PySem.W.Frag} {mg : Str → Option Value} {base : Heap}
def spForest : Sp := fun vs H Q _ => ∃ (n : Nat) (a : Addr) (es : List (Nat × Nat)), vs = [.int n, .ref a] ∧ EdgesAt H a es ∧ n ≤ 12 ∧ es.length ≤ 18 ∧ (∀ e ∈ es, e.1 < n ∧ e.2 < n) ∧ ∀ (l : Addr) (H' : Hp), H l = none → Same H H' → NodesAt H' l (forestN n es) → Q (.ref l) H'
theorem cal_forest (G : Bn mg) (D : DefAt K mg "forest_of" sforest_of) : C8.Cal P w K mg base 1 "forest_of" spForest [] := by
  refine D.cal scforest_of (fun _ _ _ _ _ _ us hl => match us, hl with | [_, _], _ => rfl) (fun vs H Q E h => ?_) (fun f cdv A outer s H vs Q E hr h => ?_)
  · obtain ⟨n, a, es, rfl, _⟩ := h
    rfl
  · obtain ⟨n, a, es, rfl, ⟨ws, hA, hE⟩, hn, hm, hes, q⟩ := h
    refine ⟨_, (pss_cons (ps_set (i := 2) scforest_of.nd rfl (Or.inr rfl) (pe_listRg rfl (by rfl) G.list (prg_1 (by rfl) G.range (pv 0))))
  (pss_cons (ps_set (i := 3) scforest_of.nd rfl (Or.inl rfl) (pe_lst pa_nil))
  (pss_cons (ps_for PassesOwn.never rfl (pi_enum (by rfl) G.enumerate (pa_cons (pv 1) pa_nil)) (pgT K rfl (pgs_cons (pg_name (i := 4) scforest_of.nd rfl (Or.inl rfl)) (pgs_cons (pgT K rfl (pgs_cons (pg_name (i := 5) scforest_of.nd rfl (Or.inr rfl)) (pgs_cons (pg_name (i := 6) scforest_of.nd rfl (Or.inr rfl)) pgs_nil))) pgs_nil)))
  (pss_one (ps_if (pt_cmpR op_ne (pe_ix (ixL K) (pv 2) (pv 5) (fun _ _ => rfl)) (pe_ix (ixL K) (pv 2) (pv 6) (fun _ _ => rfl)) (nomark _))
    (pss_cons (ps_expr (pe_bm PySem.F.plainAttrs_list PySem.F.slot_list_append PySem.F.type_list_append mt_append (pv 3) (pa_cons (pv 4) pa_nil)))
      (pss_one (ps_set (i := 2) scforest_of.nd rfl (Or.inr rfl) (pe_lc (own := [("group", 7)]) rfl scforest_of.nd (piL K (pv 2)) (blkOk_by (N := Nforest_of) (sc := defScope sforest_of) (by decide +kernel)) (fun _ _ _ _ _ => (pg_name (i := 7) scforest_of.nd rfl (Or.inl rfl))) (fun _ _ _ _ _ => pts_nil) (fun _ _ _ _ _ => (pe_ifExp (pt_cmpR op_eq (pv 7) (pe_ix (ixL K) (pv 2) (pv 6) (fun _ _ => rfl)) (nomark _)) (pe_ix (ixL K) (pv 2) (pv 5) (fun _ _ => rfl)) (pv 7)))))))
    pss_nil)))
  (pss_one (ps_ret (pv 3)))))), ?_⟩
    refine ⟨_, rfl, n, rfl, .of_le (by decide) (by omega) (by decide) (by omega), fun N hN => ?_⟩
    rw [rgV_nodes]
    refine ⟨Nat.zero_le _, fun l hl => ?_⟩
    have hl0 : H l = none := Same.free (same_upd hN) hl
    have nNl : N ≠ l := ne_of_none upd_same hl
    have hA1 : upd (upd H N (.lst ((List.range n).map nI))) l (.lst []) a = some (.lst ws) := same_upd hl _ _ (same_upd hN _ _ hA)
    refine ⟨_, rfl, a, ws, rfl, SqL.of hA1, for_it (walk_enum (K := K) (a := a) (xs := ws)) (fun i σ H1 => ∃ g o4 o5 o6, σ = [some (nI n), some (.ref a), some (.ref g), some (.ref l), o4, o5, o6, none] ∧ Same H H1 ∧ g ≠ l ∧ NodesAt H1 g (fState n es i).1 ∧ NodesAt H1 l (fState n es i).2)
      ⟨N, none, none, none, rfl, (Same.trans (same_upd hN) (same_upd hl)), nNl, same_upd hl _ _ upd_same, upd_same⟩ (fun i σ H1 _ hI => ?_) ?_ ?_⟩
    · obtain ⟨_, _, _, _, _, s1, _⟩ := hI
      exact SqL.of (s1 _ _ hA)
    · rintro i x σ H1 H2 hi ⟨g, o4, o5, o6, rfl, s1, ngl, hg, hl1⟩ ⟨T, x1, x2, rfl, hT, rfl, f1, f2⟩
      cases f1
      obtain ⟨e, he, t, rfl, ht⟩ := Paired.at' hE f2
      obtain ⟨h1, h2⟩ := hes e (List.mem_of_getElem? he)
      obtain ⟨lg, lf⟩ := fState_len n es i
      have hiM : i < es.length := by rw [← Paired.length hE]; exact hi
      have sT : Same H1 (upd H1 T (.tup [.int (i : Nat), .ref t])) := same_upd hT
      have fs := fState_succ (n := n) he
      obtain ⟨gs, fd, efs⟩ : ∃ gs fd, fState n es i = (gs, fd) := ⟨_, _, rfl⟩
      rw [efs] at hg hl1 lg lf fs
      have lg : gs.length = n := lg
      have lf : fd.length ≤ i := lf
      have hg : NodesAt H1 g gs := hg
      have hl1 : NodesAt H1 l fd := hl1
      have hg2 := sT _ _ hg
      have hl2 := sT _ _ hl1
      have ht2 := sT _ _ (s1 _ _ ht)
      have s2 : Same H (upd H1 T (.tup [.int (i : Nat), .ref t])) := Same.trans s1 sT
      obtain ⟨H2, eH2⟩ : ∃ H2, upd H1 T (.tup [.int (i : Nat), .ref t]) = H2 := ⟨_, rfl⟩
      have hT2 : H2 T = some (.tup [.int (i : Nat), .ref t]) := by rw [← eH2]; exact upd_same
      rw [eH2] at hg2 hl2 ht2 s2 ⊢
      have a1 := atI_node (getN_at (g := gs) (i := e.1) (by omega))
      have a2 := atI_node (getN_at (g := gs) (i := e.2) (by omega))
      refine ⟨T, _, rfl, SqT.of hT2, rfl, _, _, rfl, _, _, rfl, ⟨t, _, rfl, SqT.of ht2, rfl, _, _, rfl, _, _, rfl, rfl, rfl, ?_⟩⟩
      refine ⟨_, rfl, _, rfl, g, _, _, _, rfl, rfl, SqL.of hg2, a1, _, rfl, _, rfl, g, _, _, _, rfl, rfl, SqL.of hg2, a2, rfl, _, rfl, ?_⟩
      rw [dec_node]
      refine ite2 (fun hne => ?_) (fun heq => ?_)
      · have hne' : ¬ gs.getD e.1 0 = gs.getD e.2 0 := fun z => by
          rw [decide_eq_true z] at hne
          cases hne
        rw [show fstep (gs, fd) i e = (gs.map fun x => if x = gs.getD e.2 0 then gs.getD e.1 0 else x, fd ++ [i]) from if_neg hne'] at fs
        refine ⟨_, rfl, .inl ⟨rfl, _, SqL.of hl2⟩, _, rfl, l, _, _, rfl, rfl, hl2, small_lt (by rw [List.length_map]; show fd.length ≤ 1000; exact Nat.le_trans lf (by omega)), ?_⟩
        have hg3 : upd H2 l (.lst (fd.map nI ++ [nI i])) g = some (.lst (gs.map nI)) := by rw [upd_ne ngl]; exact hg2
        refine ⟨_, rfl, g, rfl, ⟨_, SqL.of hg3⟩, fun d hd => ?_⟩
        refine lc_fg nI (fun x => some (nI (if x = gs.getD e.2 0 then gs.getD e.1 0 else x))) (SqL.of hg3) hd (Nat.le_of_lt (small_lt (by omega))) (fun j x acc R Nx hx hy hno => ?_) ?_
        · have hg4 : upd (upd H2 l (.lst (fd.map nI ++ [nI i]))) d (.lst acc) g = some (.lst (gs.map nI)) := same_upd hd _ _ hg3
          refine ⟨rfl, _, rfl, _, rfl, _, rfl, g, _, _, _, rfl, rfl, SqL.of hg4, a2, rfl, _, rfl, ?_⟩
          rw [dec_node]
          refine ite2 (fun h3 => ?_) (fun h3 => ?_)
          · have h3' : x = gs.getD e.2 0 := of_decide_eq_true h3
            exact ⟨_, rfl, _, rfl, g, _, _, _, rfl, rfl, SqL.of hg4, a1, hy _ (by rw [if_pos h3'])⟩
          · have h3' : ¬ x = gs.getD e.2 0 := fun z => h3 (decide_eq_true z)
            exact ⟨_, rfl, hy _ (by rw [if_neg h3'])⟩
        · have ndl : d ≠ l := (ne_of_none upd_same hd).symm
          refine ⟨d, _, _, _, rfl, Same.trans (fun b o h => ?_) (same_upd hd), ndl, ?_, ?_⟩
          · rw [upd_ne (ne_of_none h hl0)]
            exact s2 _ _ h
          · show upd _ d _ d = _
            rw [upd_same, fs, fm_some2 _ (fun x => nI (if x = gs.getD e.2 0 then gs.getD e.1 0 else x)) (fun _ => rfl)]
            show some (HO.lst _) = some (HO.lst ((gs.map fun x => if x = gs.getD e.2 0 then gs.getD e.1 0 else x).map nI))
            rw [List.map_map] <;> rfl
          · show upd _ d _ l = _
            rw [upd_ne ndl.symm, upd_same, fs]
            show some (HO.lst _) = some (HO.lst ((fd ++ [i]).map nI))
            rw [List.map_append] <;> rfl
      · have heq' : gs.getD e.1 0 = gs.getD e.2 0 := by
          by_cases z : gs.getD e.1 0 = gs.getD e.2 0
          · exact z
          · rw [decide_eq_false z] at heq
            exact absurd rfl heq
        rw [show fstep (gs, fd) i e = (gs, fd) from if_pos heq'] at fs
        refine ⟨g, _, _, _, rfl, s2, ngl, ?_, ?_⟩
        · rw [fs]
          exact hg2
        · rw [fs]
          exact hl2
    · rintro σ H1 ⟨g, o4, o5, o6, rfl, s1, ngl, hg, hl1⟩
      rw [Paired.length hE] at hl1
      exact ⟨_, rfl, q l H1 hl0 s1 hl1⟩
end
end K29
namespace K29
open PySem PySem.Spec PyProof.Rows L2
/-- links under way: the lists are all new and apart -/
def LnkI (H0 H : Hp) (F : Addr) (ls : List (List Trip)) : Prop := ∃ As : List Addr, H F = some (.lst (As.map V.ref)) ∧ As.Nodup ∧ F ∉ As ∧ (∀ a ∈ As, H0 a = none) ∧ Paired (LinkR H) As ls
/-- one more triple at v -/
theorem LnkI.add {H0 H : Hp} {F : Addr} {ls : List (List Trip)} (h : LnkI H0 H F ls) {v : Nat} (hv : v < ls.length) :
    ∃ a vs, H a = some (.lst vs) ∧ vs.length = (ls.getD v []).length ∧ H0 a = none ∧ a ≠ F ∧ (∃ As : List Addr, H F = some (.lst (As.map V.ref)) ∧ As[v]? = some a) ∧ ∀ (x : Trip) (T : Addr) (H1 : Hp), Same H H1 → H1 T = some (.tup [nI x.1, .int x.2.1, nI x.2.2]) → LnkI H0 (upd H1 a (.lst (vs ++ [.ref T]))) F (addL ls v x) := by
  obtain ⟨As, hF, nd, nF, fr, hP⟩ := h
  have hvl : ls[v]? = some (ls.getD v []) := by simp [hv]
  obtain ⟨a, ha, vs, hL, hR⟩ := Paired.at hP hvl
  refine ⟨a, vs, hL, Paired.length hR, fr a (List.mem_of_getElem? ha), fun z => nF (by rw [← z]; exact List.mem_of_getElem? ha), ⟨As, hF, ha⟩, fun x T H1 s hT => ?_⟩
  have hL1 := s _ _ hL
  have tt : Tups H (upd H1 a (.lst (vs ++ [.ref T]))) := (L2.Same.tups s).trans (Tups.updL hL1)
  refine ⟨As, ?_, nd, nF, fr, ?_⟩
  · rw [upd_ne (fun z => nF (by rw [z]; exact List.mem_of_getElem? ha))]
    exact s _ _ hF
  · refine Paired.setR hP (fun j b l hj hb _ hbl => ?_) (fun b l hb hl hbl => ?_)
    · obtain ⟨us, h1, h2⟩ := hbl
      have nba : b ≠ a := fun z => hj (nodup_at nd (by rw [← z]; exact hb) ha)
      exact ⟨us, by rw [upd_ne nba]; exact s _ _ h1, Paired.mapP h2 fun v x => TripR.mono tt⟩
    · rw [ha] at hb
      cases hb
      rw [hvl] at hl
      refine ⟨vs ++ [.ref T], upd_same, Paired.app (Paired.mapP hR fun v x => TripR.mono tt) (.cons ⟨T, rfl, ?_⟩ .nil)⟩
      rw [upd_ne (ne_of hT hL1 (by intro z; cases z))]
      exact hT
section
variable {P : Program} {w : World} {K : PySem.W.Frag} {mg : Str → Option Value} {base : Heap}
def spLinksOf : Sp := fun vs H Q _ => ∃ (n : Nat) (a fa : Addr) (es : List (Nat × Nat)) (fo : List Nat), vs = [.int n, .ref a, .ref fa] ∧ EdgesAt H a es ∧ NodesAt H fa fo ∧ n ≤ 12 ∧ fo.length ≤ 18 ∧ (∀ i ∈ fo, i < es.length) ∧ (∀ e ∈ es, e.1 < n ∧ e.2 < n) ∧
  ∀ (l : Addr) (H' : Hp), H l = none → Same H H' → LinksAt H' l (linksN n es fo) → Q (.ref l) H'
theorem cal_links_of (G : Bn mg) (D : DefAt K mg "links_of" slinks_of) : C8.Cal P w K mg base 1 "links_of" spLinksOf [] := by
  refine D.cal sclinks_of (fun _ _ _ _ _ _ us hl => match us, hl with | [_, _, _], _ => rfl) (fun vs H Q E h => ?_) (fun f cdv A outer s H vs Q E hr h => ?_)
  · obtain ⟨n, a, fa, es, fo, rfl, _⟩ := h
    rfl
  · obtain ⟨n, a, fa, es, fo, rfl, ⟨ws, hA, hE⟩, hfo, hn, hm, hlt, hes, q⟩ := h
    refine ⟨_, (pss_cons (ps_setLc (i := 3) (own := [("node", 7)]) rfl sclinks_of.nd rfl rfl (sw_true rfl rfl rfl (by decide +kernel)) (pi_range1 (by rfl) G.range (pa_cons (pv 0) pa_nil)) (blkOk_by (N := Nlinks_of) (sc := defScope slinks_of) (by decide +kernel)) (fun _ _ _ _ _ => (pg_name (i := 7) sclinks_of.nd rfl (Or.inl rfl))) (fun _ _ _ _ _ => pts_nil) (fun _ _ _ _ _ => (pe_lst pa_nil)))
  (pss_cons (ps_for PassesOwn.never rfl (piL K (pv 2)) (pg_name (i := 4) sclinks_of.nd rfl (Or.inl rfl))
  (pss_cons (ps_asg (pe_ix (ixL K) (pv 1) (pv 4) (fun _ _ => rfl)) (pgT K rfl (pgs_cons (pg_name (i := 5) sclinks_of.nd rfl (Or.inl rfl)) (pgs_cons (pg_name (i := 6) sclinks_of.nd rfl (Or.inl rfl)) pgs_nil))))
    (pss_cons (ps_expr (pe_bm PySem.F.plainAttrs_list PySem.F.slot_list_append PySem.F.type_list_append mt_append (pe_ix (ixL K) (pv 3) (pv 5) (fun _ _ => rfl)) (pa_cons (pe_tup (pa_cons (pv 4) (pa_cons pe_int (pa_cons (pv 6) pa_nil)))) pa_nil)))
    (pss_one (ps_expr (pe_bm PySem.F.plainAttrs_list PySem.F.slot_list_append PySem.F.type_list_append mt_append (pe_ix (ixL K) (pv 3) (pv 6) (fun _ _ => rfl)) (pa_cons (pe_tup (pa_cons (pv 4) (pa_cons (pe_un un_neg pe_int) (pa_cons (pv 5) pa_nil)))) pa_nil)))))))
  (pss_one (ps_ret (pv 3))))), ?_⟩
    refine ⟨_, rfl, _, rfl, by omega, by omega, fun F hF => ?_⟩
    refine lc_range (lo := 0) (n := n) (fun i H1 => Same H H1 ∧ LnkI H H1 F (List.replicate i [])) ⟨same_upd hF, [], upd_same, List.nodup_nil, by simp, by simp, .nil⟩ (fun i H1 hi hP => ?_) (fun H1 hP => ?_)
    · obtain ⟨s1, As, h1, nd, nF, fr, hP⟩ := hP
      refine ⟨rfl, Nat.zero_le _, fun b hb => ?_⟩
      have nbF : b ≠ F := (ne_of_none h1 hb).symm
      have lA : As.length = i := by rw [Paired.length hP, List.length_replicate]
      refine ⟨As.map V.ref, by rw [upd_ne nbF.symm]; exact h1, small_lt (by rw [List.length_map]; omega), ?_⟩
      have s2 : Same H1 (upd H1 b (.lst [])) := same_upd hb
      refine ⟨fun c o h => by rw [upd_ne (ne_of_none h hF)]; exact s2 _ _ (s1 _ _ h), As ++ [b], ?_, ?_, ?_, ?_, ?_⟩
      · rw [upd_same, List.map_append] <;> rfl
      · refine List.nodup_append.mpr ⟨nd, List.pairwise_singleton _ b, fun x hx y hy => ?_⟩
        rw [List.mem_singleton.mp hy]
        obtain ⟨j, hj⟩ := List.mem_iff_getElem?.mp hx
        obtain ⟨_, _, us, hu, _⟩ := Paired.at' hP hj
        exact ne_of_none hu hb
      · intro z
        rcases List.mem_append.mp z with z | z
        · exact nF z
        · exact nbF (List.mem_singleton.mp z).symm
      · intro c hc
        rcases List.mem_append.mp hc with z | z
        · exact fr c z
        · rw [List.mem_singleton.mp z]
          exact Same.free s1 hb
      · rw [List.replicate_succ']
        refine Paired.app (Paired.mapI hP fun c l hc _ hcl => ?_) (.cons ⟨[], ?_, .nil⟩ .nil)
        · obtain ⟨us, h3, h4⟩ := hcl
          have ncF : c ≠ F := fun z => nF (by rw [← z]; exact hc)
          have tt : Tups H1 (upd (upd H1 b (.lst [])) F (.lst (As.map V.ref ++ [V.ref b]))) := (Tups.updN hb).trans (Tups.updL (ys := As.map V.ref) (by rw [upd_ne nbF.symm]; exact h1))
          exact ⟨us, by rw [upd_ne ncF]; exact s2 _ _ h3, Paired.mapP h4 fun v x => TripR.mono tt⟩
        · rw [upd_ne nbF, upd_same]
    · obtain ⟨s1, hI⟩ := hP
      have hfo1 : NodesAt H1 fa fo := s1 _ _ hfo
      refine ⟨_, rfl, fa, rfl, ⟨_, SqL.of hfo1⟩, for_list (K := K) (a := fa) (xs := fo.map nI) (fun j σ H2 => ∃ o4 o5 o6, σ = [some (nI n), some (.ref a), some (.ref fa), some (.ref F), o4, o5, o6, none] ∧ Same H H2 ∧ LnkI H H2 F ((fo.take j).foldl (lstep es) (List.replicate n [])) ∧ ∀ l ∈ (fo.take j).foldl (lstep es) (List.replicate n []), l.length ≤ 2 * j)
        ⟨none, none, none, rfl, s1, hI, by rw [List.take_zero]; intro l hl; rw [(List.mem_replicate.mp hl).2]; exact Nat.le_refl _⟩ (fun j σ H2 _ hJ => ?_) ?_ ?_⟩
      · obtain ⟨_, _, _, _, s2, _⟩ := hJ
        exact SqL.of (s2 _ _ hfo)
      · rintro j x σ H2 hx ⟨o4, o5, o6, rfl, s2, hI2, hlen⟩
        obtain ⟨i, hi, rfl⟩ := node_at' hx
        have hie : i < es.length := hlt i (List.mem_of_getElem? hi)
        have hj : j < fo.length := (List.getElem?_eq_some_iff.mp hi).1
        have he : es[i]? = some (es.getD i (0, 0)) := by simp [hie]
        obtain ⟨e, ee⟩ : ∃ e, es.getD i (0, 0) = e := ⟨_, rfl⟩
        rw [ee] at he
        obtain ⟨wv, hwv, t, rfl, ht⟩ := Paired.at hE he
        obtain ⟨b1, b2⟩ := hes e (List.mem_of_getElem? he)
        obtain ⟨ls, els⟩ : ∃ ls, (fo.take j).foldl (lstep es) (List.replicate n []) = ls := ⟨_, rfl⟩
        have lls : ls.length = n := by
          rw [← els]
          have : ∀ (fo : List Nat) (ls : List (List Trip)), (fo.foldl (lstep es) ls).length = ls.length := fun fo => by
            induction fo with
            | nil => intro ls; rfl
            | cons x r ih => intro ls; rw [List.foldl_cons, ih, lstep_len]
          rw [this, List.length_replicate]
        rw [foldl_take _ _ hi, els]
        rw [els] at hI2 hlen
        have hA2 := s2 _ _ hA
        have ht2 := s2 _ _ ht
        refine ⟨_, rfl, _, rfl, a, ws, (i : Int), _, rfl, rfl, SqL.of hA2, atI_nat hwv, t, _, rfl, SqT.of ht2, rfl, _, _, rfl, _, _, rfl, rfl, ?_⟩
        -- found[tail].append((index, 1, head))
        obtain ⟨c1, us, hc1, lu, fc1, nc1, ⟨As, hF2, hAs⟩, add1⟩ := hI2.add (v := e.1) (by omega)
        refine ⟨_, rfl, _, rfl, F, _, _, _, rfl, rfl, SqL.of hF2, atI_nat (ref_at hAs), .inl ⟨rfl, _, SqL.of hc1⟩, ?_⟩
        refine ⟨_, rfl, _, rfl, (by show 3 ≤ sizeLine; decide), fun T1 hT1 => ?_⟩
        have sT1 : Same H2 (upd H2 T1 (.tup [nI i, .int 1, nI e.2])) := same_upd hT1
        have lb1 : (ls.getD e.1 []).length ≤ 2 * j := hlen _ (by rw [show ls.getD e.1 [] = ls[e.1]'(by omega) by simp [show e.1 < ls.length by omega]]; exact List.getElem_mem _)
        refine ⟨c1, us, _, rfl, rfl, sT1 _ _ hc1, small_lt (by omega), ?_⟩
        have hI3 := add1 (i, 1, e.2) T1 _ sT1 upd_same
        have s3 : Same H (upd (upd H2 T1 (.tup [nI i, .int 1, nI e.2])) c1 (.lst (us ++ [.ref T1]))) := fun b o h => by
          rw [upd_ne (ne_of_none h fc1)]
          exact sT1 _ _ (s2 _ _ h)
        generalize upd (upd H2 T1 (.tup [nI i, .int 1, nI e.2])) c1 (.lst (us ++ [.ref T1])) = H3 at hI3 s3 ⊢
        -- found[head].append((index, -1, tail))
        have hlen3 : ∀ l ∈ addL ls e.1 (i, 1, e.2), l.length ≤ 2 * j + 1 := addL_each hlen
        obtain ⟨c2, us2, hc2, lu2, fc2, nc2, ⟨As2, hF3, hAs2⟩, add2⟩ := hI3.add (v := e.2) (by rw [addL_len]; omega)
        refine ⟨_, rfl, _, rfl, F, _, _, _, rfl, rfl, SqL.of hF3, atI_nat (ref_at hAs2), .inl ⟨rfl, _, SqL.of hc2⟩, ?_⟩
        refine ⟨_, rfl, _, rfl, _, rfl, (by show 3 ≤ sizeLine; decide), fun T2 hT2 => ?_⟩
        have sT2 : Same H3 (upd H3 T2 (.tup [nI i, .int (-1), nI e.1])) := same_upd hT2
        have lb2 : ((addL ls e.1 (i, 1, e.2)).getD e.2 []).length ≤ 2 * j + 1 := hlen3 _ (by
          have hb : e.2 < (addL ls e.1 (i, 1, e.2)).length := by rw [addL_len]; omega
          rw [show (addL ls e.1 (i, 1, e.2)).getD e.2 [] = (addL ls e.1 (i, 1, e.2))[e.2] by simp [hb]]
          exact List.getElem_mem _)
        refine ⟨c2, us2, _, rfl, rfl, sT2 _ _ hc2, small_lt (by omega), ?_⟩
        refine ⟨_, _, _, rfl, fun b o h => ?_, ?_, ?_⟩
        · show upd (upd H3 T2 _) c2 _ b = _
          rw [upd_ne (ne_of_none h fc2)]
          exact sT2 _ _ (s3 _ _ h)
        · have z := add2 (i, -1, e.1) T2 _ sT2 upd_same
          unfold lstep
          rw [ee]
          exact z
        · unfold lstep
          rw [ee]
          intro l hl
          have z := addL_each hlen3 l hl
          omega
      · rintro σ H2 ⟨o4, o5, o6, rfl, s2, hI2, _⟩
        rw [List.length_map, List.take_length] at hI2
        obtain ⟨As, h1, _, _, _, h2⟩ := hI2
        exact ⟨_, rfl, q F H2 hF s2 ⟨As, h1, h2⟩⟩
end
end K29
namespace K29
open PySem PySem.Spec PyProof.Rows L2
def StepR (H : Hp) (v : V) (x : Nat × Int) : Prop := ∃ t, v = .ref t ∧ H t = some (.tup [nI x.1, .int x.2])
theorem StepR.mono {H H' : Hp} (e : Tups H H') {v : V} {x : Nat × Int} (h : StepR H v x) : StepR H' v x := by
  obtain ⟨t, r, q⟩ := h
  exact ⟨t, r, e _ _ q⟩
abbrev PathR (H : Hp) (a : Addr) (p : PathM) : Prop := LstR (StepR H) H a p
theorem PathR.mono {H H' : Hp} {a : Addr} {p : PathM} (h : PathR H a p) (e : Tups H H') (ha : ∀ o, H a = some o → H' a = some o) : PathR H' a p := by
  obtain ⟨vs, h1, h2⟩ := h
  exact ⟨vs, ha _ h1, Paired.mapP h2 fun v x => StepR.mono e⟩
/-- a path under its node, in a list where N holds -/
def KvR (N : Addr → Prop) (H : Hp) (e : L2.Key × V) (x : Nat × PathM) : Prop := e.1 = .inl (x.1 : Int) ∧ ∃ a, e.2 = .ref a ∧ N a ∧ PathR H a x.2
def PathsAt (H : Hp) (D : Addr) (kvs : List (Nat × PathM)) : Prop := ∃ es : List (L2.Key × V), H D = some (.dK es) ∧ Paired (KvR (fun _ => True) H) es kvs
theorem val_none {N : Addr → Prop} {H : Hp} {es : List (L2.Key × V)} {kvs : List (Nat × PathM)} (h : Paired (KvR N H) es kvs) {v : Nat} : (valV es (.inl (v : Int))).isSome = decide (v ∈ kvs.map (·.1)) := by
  induction h with
  | nil => rfl
  | @cons e x es kvs r t ih =>
    obtain ⟨e1, _⟩ := r
    by_cases hv : x.1 = v
    · rw [valV_pos (by rw [e1, hv])]
      simp [hv]
    · rw [valV_neg (fun z => hv (by rw [e1] at z; have := Sum.inl.inj z; omega)), ih]
      have hv2 : ¬ v = x.1 := fun z => hv z.symm
      simp [hv2]
theorem val_some {N : Addr → Prop} {H : Hp} {es : List (L2.Key × V)} {kvs : List (Nat × PathM)} (h : Paired (KvR N H) es kvs) {v : Nat} (hv : v ∈ kvs.map (·.1)) : ∃ a p, valV es (.inl (v : Int)) = some (.ref a) ∧ (v, p) ∈ kvs ∧ N a ∧ PathR H a p := by
  induction h with
  | nil => cases hv
  | @cons e x es kvs r t ih =>
    obtain ⟨e1, a, e2, na, hp⟩ := r
    by_cases hx : x.1 = v
    · refine ⟨a, x.2, by rw [valV_pos (by rw [e1, hx]), e2], ?_, na, hp⟩
      rw [← hx]
      exact List.mem_cons_self
    · rcases List.mem_cons.mp hv with z | z
      · exact absurd z.symm hx
      · obtain ⟨b, p, h1, h2, h3, h4⟩ := ih z
        refine ⟨b, p, ?_, List.mem_cons_of_mem _ h2, h3, h4⟩
        rw [valV_neg (fun z => hx (by rw [e1] at z; have := Sum.inl.inj z; omega))]
        exact h1
section
variable {P : Program} {w : World} {K : PySem.W.Frag} {mg : Str → Option Value} {base : Heap}
def spPaths : Sp := fun vs H Q _ => ∃ (n s : Nat) (a : Addr) (ls : List (List Trip)), vs = [.ref a, nI s] ∧ LinksAt H a ls ∧ LsOk n ls ∧ s < n ∧ n ≤ 12 ∧
  ∀ (D : Addr) (H' : Hp) (kvs : List (Nat × PathM)), H D = none → Same H H' → PathsAt H' D kvs → PathsOk ls n s kvs → Q (.ref D) H'
theorem cal_paths (D : DefAt K mg "walk_paths" swalk_paths) : C8.Cal P w K mg base 1 "walk_paths" spPaths [] := by
  refine D.cal scwalk_paths (fun _ _ _ _ _ _ us hl => match us, hl with | [_, _], _ => rfl) (fun vs H Q E h => ?_) (fun f cdv A outer s H vs Q E hr h => ?_)
  · obtain ⟨n, s, a, ls, rfl, _⟩ := h
    rfl
  · obtain ⟨n, st, a, ls, rfl, hL, hls, hst, hn, q⟩ := h
    refine ⟨_, (pss_cons (ps_set (i := 2) scwalk_paths.nd rfl (Or.inl rfl) (pe_disp (pps_cons (pv 1) (pe_lst pa_nil) pps_nil) rfl rfl (fun z => by cases z) (by decide)))
  (pss_cons (ps_set (i := 3) scwalk_paths.nd rfl (Or.inl rfl) (pe_lst (pa_cons (pv 1) pa_nil)))
  (pss_cons (ps_while PassesOwn.never (pt_truth (pv 3) (by intro _; rfl))
  (pss_cons (ps_set (i := 4) scwalk_paths.nd rfl (Or.inl rfl) (pe_lst pa_nil))
    (pss_cons (ps_for PassesOwn.never rfl (piL K (pv 3)) (pg_name (i := 5) scwalk_paths.nd rfl (Or.inl rfl))
    (pss_one (ps_for PassesOwn.never rfl (piL K (pe_ix (ixL K) (pv 0) (pv 5) (fun _ _ => rfl))) (pgT K rfl (pgs_cons (pg_name (i := 6) scwalk_paths.nd rfl (Or.inl rfl)) (pgs_cons (pg_name (i := 7) scwalk_paths.nd rfl (Or.inl rfl)) (pgs_cons (pg_name (i := 8) scwalk_paths.nd rfl (Or.inl rfl)) pgs_nil))))
      (pss_one (ps_if (pt_cmp (pc_dnotin (hu_of hr) (pv 8) (pv 2)))
        (pss_cons (ps_dput (hu_of hr) (pv 2) (pv 8) (pe_op op_cat (pe_dget (hu_of hr) (pv 2) (pv 5) (fun _ _ => rfl)) (pe_lst (pa_cons (pe_tup (pa_cons (pv 6) (pa_cons (pv 7) pa_nil))) pa_nil))) rfl)
          (pss_one (ps_expr (pe_bm PySem.F.plainAttrs_list PySem.F.slot_list_append PySem.F.type_list_append mt_append (pv 4) (pa_cons (pv 8) pa_nil)))))
        pss_nil)))))
    (pss_one (ps_set (i := 3) scwalk_paths.nd rfl (Or.inl rfl) (pv 4))))))
  (pss_one (ps_ret (pv 2)))))), ?_⟩
    -- paths = {start: []}
    refine fun Dp hD => ⟨_, rfl, Nat.zero_le _, fun e0 he0 => ⟨?_, [(.inl (st : Int), .ref e0)], rfl, (by show 1 ≤ 15; decide), ?_⟩⟩
    · rw [upd_ne (ne_of_none upd_same he0), upd_same]
    have nDe : Dp ≠ e0 := ne_of_none upd_same he0
    have f0 : H e0 = none := upd_none' he0
    have sA : Same H (upd (upd (upd H Dp (.dK [])) e0 (.lst [])) Dp (.dK (mergeK [] [(.inl (st : Int), .ref e0)]))) := fun b o h => by
      rw [upd_ne (ne_of_none h hD), upd_ne (ne_of_none h f0), upd_ne (ne_of_none h hD)]
      exact h
    have hK0 : upd (upd (upd H Dp (.dK [])) e0 (.lst [])) Dp (.dK (mergeK [] [(.inl (st : Int), .ref e0)])) Dp = some (.dK [(.inl (st : Int), .ref e0)]) := upd_same
    have hE0 : upd (upd (upd H Dp (.dK [])) e0 (.lst [])) Dp (.dK (mergeK [] [(.inl (st : Int), .ref e0)])) e0 = some (.lst []) := by rw [upd_ne nDe.symm, upd_same]
    generalize upd (upd (upd H Dp (.dK [])) e0 (.lst [])) Dp (.dK (mergeK [] [(.inl (st : Int), .ref e0)])) = H1 at sA hK0 hE0 ⊢
    -- level = [start]
    refine ⟨_, rfl, (by show 1 ≤ sizeLine; decide), fun lv hlv => ?_⟩
    refine ⟨fun m σ H2 => ∃ (l : Addr) (lvl : List Nat) (kvs : List (Nat × PathM)) (o4 o5 o6 o7 o8 : Option V), σ = [some (.ref a), some (nI st), some (.ref Dp), some (.ref l), o4, o5, o6, o7, o8] ∧ Same H H2 ∧ NodesAt H2 l lvl ∧ l ≠ Dp ∧ PathsAt H2 Dp kvs ∧ BI ls n st kvs ∧ (∀ u ∈ lvl, u ∈ kvs.map (·.1)) ∧ (∀ u ∈ kvs.map (·.1), u ∈ lvl ∨ ClosedU ls kvs u) ∧ m = 2 * (n - kvs.length) + (if lvl = [] then 0 else 1), ⟨_, lv, [st], [(st, [])], none, none, none, none, none, rfl, ?_, upd_same, (ne_of_none hK0 hlv).symm, ?_, BI.one hst, ?_, ?_, rfl⟩, ?_⟩
    · exact Same.trans sA (same_upd hlv)
    · exact ⟨_, same_upd hlv _ _ hK0, .cons ⟨rfl, e0, rfl, trivial, [], same_upd hlv _ _ hE0, .nil⟩ .nil⟩
    · intro u hu
      exact hu
    · intro u hu
      exact .inl hu
    rintro m σ H2 ⟨l, lvl, kvs, o4, o5, o6, o7, o8, rfl, s2, hl, nlD, hPth, bi, sub, cl, rfl⟩
    refine ⟨_, rfl, _, .inl ⟨_, SqL.of hl, rfl⟩, ?_⟩
    cases lvl with
    | nil =>
      refine iteF ⟨_, rfl, q Dp H2 kvs hD s2 hPth ⟨bi, fun u hu => ?_⟩⟩
      rcases cl u hu with z | z
      · cases z
      · exact z
    | cons u0 lvl =>
      refine iteT ?_
      obtain ⟨lv1, elv⟩ : ∃ lv1, u0 :: lvl = lv1 := ⟨_, rfl⟩
      rw [elv] at hl sub cl
      have mold : 2 * (n - kvs.length) + (if u0 :: lvl = [] then 0 else 1) = 2 * (n - kvs.length) + 1 := by rw [if_neg (List.cons_ne_nil _ _)]
      rw [mold]
      refine ⟨fun σ' H' => ∃ m', m' < 2 * (n - kvs.length) + 1 ∧ ∃ (l : Addr) (lvl : List Nat) (kvs : List (Nat × PathM)) (o4 o5 o6 o7 o8 : Option V), σ' = [some (.ref a), some (nI st), some (.ref Dp), some (.ref l), o4, o5, o6, o7, o8] ∧ Same H H' ∧ NodesAt H' l lvl ∧ l ≠ Dp ∧ PathsAt H' Dp kvs ∧ BI ls n st kvs ∧ (∀ u ∈ lvl, u ∈ kvs.map (·.1)) ∧ (∀ u ∈ kvs.map (·.1), u ∈ lvl ∨ ClosedU ls kvs u) ∧ m' = 2 * (n - kvs.length) + (if lvl = [] then 0 else 1), fun σ' H' hN => hN, ?_⟩
      -- later = []
      refine ⟨Nat.zero_le _, fun lt hlt => ?_⟩
      have fl : H lt = none := Same.free s2 hlt
      have nlt : l ≠ lt := ne_of_none hl hlt
      obtain ⟨es, hK, hKv⟩ := hPth
      have nDlt : Dp ≠ lt := ne_of_none hK hlt
      have s3 : Same H2 (upd H2 lt (.lst [])) := same_upd hlt
      have tt0 : Tups H2 (upd H2 lt (.lst [])) := L2.Same.tups s3
      refine ⟨_, rfl, l, rfl, ⟨_, SqL.of (s3 _ _ hl)⟩, for_list (K := K) (a := l) (xs := lv1.map nI) (fun j σ H3 => ∃ (lat : List Nat) (kv2 : List (Nat × PathM)) (es2 : List (L2.Key × V)) (o5 o6 o7 o8 : Option V), σ = [some (.ref a), some (nI st), some (.ref Dp), some (.ref l), some (.ref lt), o5, o6, o7, o8] ∧ Same H H3 ∧ NodesAt H3 l lv1 ∧ NodesAt H3 lt lat ∧ H3 Dp = some (.dK es2) ∧ Paired (KvR (· ≠ lt) H3) es2 kv2 ∧ BI ls n st kv2 ∧ (∀ u ∈ lat, u ∈ kv2.map (·.1)) ∧ (∀ u ∈ kvs.map (·.1), u ∈ kv2.map (·.1)) ∧ (∀ u ∈ kv2.map (·.1), u ∈ lat ∨ u ∈ lv1.drop j ∨ ClosedU ls kv2 u) ∧ kv2.length = kvs.length + lat.length)
        ⟨[], kvs, es, o5, o6, o7, o8, rfl, Same.trans s2 s3, s3 _ _ hl, upd_same, s3 _ _ hK, Paired.mapP hKv (fun e x hx => ?_), bi, (by simp), (fun u hu => hu), (fun u hu => ?_), by simp⟩ ?_ ?_ ?_⟩
      · obtain ⟨e1, b, e2, _, hp⟩ := hx
        have ⟨vs, hb, _⟩ := id hp
        exact ⟨e1, b, e2, ne_of_none hb hlt, hp.mono tt0 (s3 b)⟩
      · rcases cl u hu with z | z
        · exact .inr (.inl z)
        · exact .inr (.inr z)
      · rintro j σ H3 _ ⟨_, _, _, _, _, _, _, _, _, h, _⟩
        exact SqL.of h
      · -- a node of the level
        rintro j x σ H3 hx ⟨lat, kv2, es2, o5, o6, o7, o8, rfl, sH3, hl3, hlt3, hD3, hKv3, bi2, subL, subK, cl2, cnt⟩
        obtain ⟨u, hu, rfl⟩ := node_at' hx
        have huK : u ∈ kv2.map (·.1) := subK u (sub u (List.mem_of_getElem? hu))
        have hun : u < n := by
          obtain ⟨y, hy, ey⟩ := List.mem_map.mp huK
          rw [← ey]
          exact bi2.lt y hy
        obtain ⟨As, hA, hAl⟩ := LinksAt.same sH3 hL
        have hul : ls[u]? = some (ls.getD u []) := by
          have := hls.len
          simp [show u < ls.length by omega]
        obtain ⟨b, hb, ws, hws, hwR⟩ := Paired.at hAl hul
        have nblt : b ≠ lt := fun z => by
          have q0 : ∃ bb, H bb ≠ none ∧ bb = b := by
            obtain ⟨As0, hA0, hAl0⟩ := hL
            have e0 := sH3 _ _ hA0
            rw [hA] at e0
            have eAs : As0 = As := map_ref_inj (HO.lst.inj (Option.some.inj e0).symm)
            obtain ⟨b0, hb0, ws0, hws0, _⟩ := Paired.at hAl0 hul
            rw [eAs, hb] at hb0
            cases hb0
            exact ⟨b, by rw [hws0]; simp, rfl⟩
          obtain ⟨bb, h1, h2⟩ := q0
          rw [h2, z] at h1
          exact h1 fl
        have drop_eq : lv1.drop j = u :: lv1.drop (j + 1) := by
          rw [List.drop_eq_getElem?_toList_append, hu] <;> rfl
        refine ⟨_, rfl, _, rfl, a, _, _, _, rfl, rfl, SqL.of hA, atI_nat (ref_at hb), b, rfl, ⟨_, SqL.of hws⟩, for_list (K := K) (a := b) (xs := ws) (fun k σ H4 => ∃ (lat : List Nat) (kv3 : List (Nat × PathM)) (es3 : List (L2.Key × V)) (o6 o7 o8 : Option V), σ = [some (.ref a), some (nI st), some (.ref Dp), some (.ref l), some (.ref lt), some (nI u), o6, o7, o8] ∧ Same H H4 ∧ NodesAt H4 l lv1 ∧ H4 b = some (.lst ws) ∧ NodesAt H4 lt lat ∧ H4 Dp = some (.dK es3) ∧ Paired (KvR (· ≠ lt) H4) es3 kv3 ∧ Paired (TripR H4) ws (ls.getD u []) ∧ BI ls n st kv3 ∧ (∀ u ∈ lat, u ∈ kv3.map (·.1)) ∧ (∀ u ∈ kv2.map (·.1), u ∈ kv3.map (·.1)) ∧ (∀ v ∈ kv3.map (·.1), v ∈ lat ∨ v ∈ lv1.drop (j + 1) ∨ v = u ∨ ClosedU ls kv3 v) ∧ (∀ x ∈ (ls.getD u []).take k, x.2.2 ∈ kv3.map (·.1)) ∧ kv3.length = kvs.length + lat.length)
          ⟨lat, kv2, es2, o6, o7, o8, rfl, sH3, hl3, hws, hlt3, hD3, hKv3, hwR, bi2, subL, fun u h => h, (fun v hv => ?_), (by simp), cnt⟩ ?_ ?_ ?_⟩
        · rcases cl2 v hv with z | z | z
          · exact .inl z
          · rw [drop_eq] at z
            rcases List.mem_cons.mp z with z | z
            · exact .inr (.inr (.inl z))
            · exact .inr (.inl z)
          · exact .inr (.inr (.inr z))
        · rintro k σ H4 _ ⟨_, _, _, _, _, _, _, _, _, h, _⟩
          exact SqL.of h
        · -- a link
          rintro k y σ H4 hy ⟨lat, kv3, es3, o6, o7, o8, rfl, sH4, hl4, hb4, hlt4, hD4, hKv4, hwR4, bi3, subL3, subK3, cl3, cls3, cnt3⟩
          obtain ⟨⟨i, w, v⟩, hx, t, rfl, ht⟩ := Paired.at' hwR4 hy
          have hmem : (i, w, v) ∈ ls.getD u [] := List.mem_of_getElem? hx
          have hvn : v < n := hls.lt u _ hmem
          have tk : (ls.getD u []).take (k + 1) = (ls.getD u []).take k ++ [(i, w, v)] := by rw [List.take_add_one, hx] <;> rfl
          refine ⟨t, _, rfl, SqT.of ht, rfl, _, _, rfl, _, _, rfl, _, _, rfl, rfl, ?_⟩
          refine ⟨_, rfl, _, rfl, Dp, _, rfl, DGet.k (k := .inl (v : Int)) hD4, _, rfl, ?_⟩
          rw [val_none hKv4]
          by_cases hv : v ∈ kv3.map (·.1)
          · rw [decide_eq_true hv]
            refine iteF ⟨lat, kv3, es3, _, _, _, rfl, sH4, hl4, hb4, hlt4, hD4, hKv4, hwR4, bi3, subL3, subK3, cl3, fun x hx2 => ?_, cnt3⟩
            rw [tk] at hx2
            rcases List.mem_append.mp hx2 with z | z
            · exact cls3 x z
            · rw [List.mem_singleton.mp z]
              exact hv
          · rw [decide_eq_false hv]
            refine iteT ?_
            -- paths[other] = paths[node] + [(index, way)]
            have huK3 := subK3 u huK
            obtain ⟨pa, p, hval, hup, npa, us, hpa, hpR⟩ := val_some hKv4 huK3
            have card3 := bi3.card
            have plen : p.length ≤ 12 := by
              have := bi3.len _ hup
              show p.length ≤ 12
              have h2 : p.length < kv3.length := this
              omega
            refine ⟨_, rfl, _, rfl, Dp, _, rfl, (by rw [← hval]; exact DGet.k (k := .inl (u : Int)) hD4), _, rfl, _, rfl, (by show 2 ≤ sizeLine; decide), fun T hT => ?_⟩
            have sT : Same H4 (upd H4 T (.tup [nI i, .int w])) := same_upd hT
            have hT5 : upd H4 T (.tup [nI i, .int w]) T = some (.tup [nI i, .int w]) := upd_same
            generalize upd H4 T (.tup [nI i, .int w]) = H5 at sT hT5 ⊢
            refine ⟨(by show 1 ≤ sizeLine; decide), fun sg hsg => ?_⟩
            have sS : Same H5 (upd H5 sg (.lst [.ref T])) := same_upd hsg
            have hsg6 : upd H5 sg (.lst [.ref T]) sg = some (.lst [.ref T]) := upd_same
            generalize upd H5 sg (.lst [.ref T]) = H6 at sS hsg6 ⊢
            have lus : us.length = p.length := Paired.length hpR
            refine ⟨pa, sg, us, [.ref T], rfl, rfl, sS _ _ (sT _ _ hpa), hsg6, (by show us.length + 1 ≤ sizeLine; exact Nat.le_of_lt (small_lt (by omega))), fun np hnp => ?_⟩
            have sN : Same H6 (upd H6 np (.lst (us ++ [.ref T]))) := same_upd hnp
            have s47 : Same H4 (upd H6 np (.lst (us ++ [.ref T]))) := Same.trans sT (Same.trans sS sN)
            have hnp7 : upd H6 np (.lst (us ++ [.ref T])) np = some (.lst (us ++ [.ref T])) := upd_same
            have hT7 : upd H6 np (.lst (us ++ [.ref T])) T = some (.tup [nI i, .int w]) := sN _ _ (sS _ _ hT5)
            have nnp : np ≠ lt := fun z => by
              have z1 := sS _ _ (sT _ _ hlt4)
              rw [← z, hnp] at z1
              cases z1
            generalize upd H6 np (.lst (us ++ [.ref T])) = H7 at sN s47 hnp7 hT7 ⊢
            have hD7 := s47 _ _ hD4
            have lK : es3.length = kv3.length := Paired.length hKv4
            have vnone : valV es3 (.inl (v : Int)) = none := by
              have z := val_none hKv4 (v := v)
              rw [decide_eq_false hv] at z
              cases e : valV es3 (.inl (v : Int)) with
              | none => rfl
              | some _ => rw [e] at z; cases z
            refine ⟨_, rfl, _, rfl, Dp, _, rfl, DPut.k (k := .inl (v : Int)) hD7 (small_lt (by omega)), ?_⟩
            rw [putK_new _ vnone]
            have tt8 : Tups H7 (upd H7 Dp (.dK (es3 ++ [(.inl (v : Int), .ref np)]))) := fun c xs e => by
              rw [upd_ne (ne_of e hD7 (by intro z; cases z))]
              exact e
            have ll8 : ∀ c xs, H7 c = some (.lst xs) → upd H7 Dp (.dK (es3 ++ [(.inl (v : Int), .ref np)])) c = some (.lst xs) := fun c xs e => by
              rw [upd_ne (ne_of e hD7 (by intro z; cases z))]
              exact e
            have hD8 : upd H7 Dp (.dK (es3 ++ [(.inl (v : Int), .ref np)])) Dp = some (.dK (es3 ++ [(.inl (v : Int), .ref np)])) := upd_same
            have s8 : Same H (upd H7 Dp (.dK (es3 ++ [(.inl (v : Int), .ref np)]))) := fun c o h => by
              rw [upd_ne (ne_of_none h hD)]
              exact s47 _ _ (sH4 _ _ h)
            generalize upd H7 Dp (.dK (es3 ++ [(.inl (v : Int), .ref np)])) = H8 at tt8 ll8 hD8 s8 ⊢
            have hlt8 : H8 lt = some (.lst (lat.map nI)) := ll8 _ _ (s47 _ _ hlt4)
            -- later.append(other)
            refine ⟨_, rfl, .inl ⟨rfl, _, SqL.of hlt8⟩, _, rfl, lt, _, _, rfl, rfl, hlt8, small_lt (by rw [List.length_map]; omega), ?_⟩
            have tt9 : Tups H4 (upd H8 lt (.lst (lat.map nI ++ [nI v]))) := (L2.Same.tups s47).trans (tt8.trans (Tups.updL hlt8))
            have ll9 : ∀ c xs, c ≠ lt → H4 c = some (.lst xs) → upd H8 lt (.lst (lat.map nI ++ [nI v])) c = some (.lst xs) := fun c xs nc e => by
              rw [upd_ne nc]
              exact ll8 _ _ (s47 _ _ e)
            refine ⟨lat ++ [v], kv3 ++ [(v, p ++ [(i, w)])], es3 ++ [(.inl (v : Int), .ref np)], _, _, _, rfl, fun c o h => ?_, ll9 _ _ nlt hl4, ll9 _ _ nblt hb4, ?_, ?_, ?_, Paired.mapP hwR4 (fun v x => TripR.mono tt9), bi3.add hup hmem hv hvn, fun z hz => ?_, fun z hz => ?_, fun z hz => ?_, fun x hx2 => ?_, ?_⟩
            · show upd H8 lt _ c = _
              rw [upd_ne (ne_of_none h fl)]
              exact s8 _ _ h
            · show upd H8 lt _ lt = _
              rw [upd_same, List.map_append] <;> rfl
            · show upd H8 lt _ Dp = _
              rw [upd_ne nDlt]
              exact hD8
            · refine Paired.app (Paired.mapP hKv4 fun e x hx3 => ?_) (.cons ⟨rfl, np, rfl, nnp, us ++ [.ref T], ?_, Paired.app (Paired.mapP hpR fun v x => StepR.mono tt9) (.cons ⟨T, rfl, ?_⟩ .nil)⟩ .nil)
              · obtain ⟨e1, c, e2, nc, hp⟩ := hx3
                refine ⟨e1, c, e2, nc, hp.mono tt9 (fun o ho => ?_)⟩
                obtain ⟨xs, hxs, _⟩ := hp
                rw [hxs] at ho
                cases ho
                exact ll9 _ _ nc hxs
              · show upd H8 lt _ np = _
                rw [upd_ne nnp]
                exact ll8 _ _ hnp7
              · exact (tt8.trans (Tups.updL hlt8)) _ _ hT7
            · rw [List.map_append]
              rcases List.mem_append.mp hz with z1 | z1
              · exact List.mem_append_left _ (subL3 z z1)
              · exact List.mem_append_right _ (by rw [List.mem_singleton.mp z1]; exact List.mem_singleton.mpr rfl)
            · rw [List.map_append]
              exact List.mem_append_left _ (subK3 z hz)
            · rw [List.map_append] at hz
              rcases List.mem_append.mp hz with z1 | z1
              · rcases cl3 z z1 with z2 | z2 | z2 | z2
                · exact .inl (List.mem_append_left _ z2)
                · exact .inr (.inl z2)
                · exact .inr (.inr (.inl z2))
                · exact .inr (.inr (.inr (z2.more _)))
              · exact .inl (List.mem_append_right _ z1)
            · rw [List.map_append]
              rw [tk] at hx2
              rcases List.mem_append.mp hx2 with z | z
              · exact List.mem_append_left _ (cls3 x z)
              · rw [List.mem_singleton.mp z]
                exact List.mem_append_right _ (List.mem_singleton.mpr rfl)
            · rw [List.length_append, List.length_append, List.length_singleton, List.length_singleton, cnt3]
              omega
        · -- the links of u are through
          rintro σ H4 ⟨lat, kv3, es3, o6, o7, o8, rfl, sH4, hl4, hb4, hlt4, hD4, hKv4, hwR4, bi3, subL3, subK3, cl3, cls3, cnt3⟩
          refine ⟨lat, kv3, es3, _, _, _, _, rfl, sH4, hl4, hlt4, hD4, hKv4, bi3, subL3, fun z hz => subK3 z (subK z hz), fun z hz => ?_, cnt3⟩
          rw [Paired.length hwR4, List.take_length] at cls3
          rcases cl3 z hz with z1 | z1 | z1 | z1
          · exact .inl z1
          · exact .inr (.inl z1)
          · rw [z1]
            exact .inr (.inr cls3)
          · exact .inr (.inr z1)
      · -- level = later
        rintro σ H3 ⟨lat, kv2, es2, o5, o6, o7, o8, rfl, sH3, hl3, hlt3, hD3, hKv3, bi2, subL, subK, cl2, cnt⟩
        refine ⟨_, rfl, _, ?_, lt, lat, kv2, _, _, _, _, _, rfl, sH3, hlt3, nDlt.symm, ⟨es2, hD3, Paired.mapP hKv3 fun e x ⟨e1, c, e2, _, hp⟩ => ⟨e1, c, e2, trivial, hp⟩⟩, bi2, subL, fun u hu => ?_, rfl⟩
        · have c2 := bi2.card
          cases lat with
          | nil =>
            rw [if_pos rfl]
            have e2 : kv2.length = kvs.length := cnt
            omega
          | cons y r =>
            rw [if_neg (List.cons_ne_nil _ _)]
            rw [List.length_cons] at cnt
            omega
        · rcases cl2 u hu with z | z | z
          · exact .inl z
          · rw [List.length_map, List.drop_length] at z
            cases z
          · exact .inr z
end
end K29
namespace K29
open PySem PySem.Spec PyProof.Rows L2
theorem perm_nodes {ys : List Int} {ks : List Nat} (h : ys.Perm (ks.map fun v : Nat => (v : Int))) : ∃ g : List Nat, ys = g.map (fun v : Nat => (v : Int)) ∧ g.Perm ks := by
  refine ⟨ys.map Int.toNat, ?_, ?_⟩
  · rw [List.map_map]
    have e : ∀ y ∈ ys, ((fun v : Nat => (v : Int)) ∘ Int.toNat) y = y := fun y hy => by
      obtain ⟨k, _, e⟩ := List.mem_map.mp (h.mem_iff.mp hy)
      show ((y.toNat : Nat) : Int) = y
      rw [← e]
      simp
    exact ((List.map_congr_left e).trans (List.map_id' ys)).symm
  · have q := h.map Int.toNat
    rw [List.map_map] at q
    have e : (Int.toNat ∘ fun v : Nat => (v : Int)) = id := funext fun v => by simp
    rw [e, List.map_id] at q
    exact q
section
variable {P : Program} {w : World} {K : PySem.W.Frag} {mg : Str → Option Value} {base : Heap}
def spComps : Sp := fun vs H Q _ => ∃ (n : Nat) (a : Addr) (ls : List (List Trip)), vs = [.ref a] ∧ LinksAt H a ls ∧ LsOk n ls ∧ SymL ls ∧ n ≤ 12 ∧
  ∀ (l : Addr) (H' : Hp) (gs : List (List Nat)), H l = none → Same H H' → GroupsAt H' l gs → Comps ls n gs → Q (.ref l) H'
theorem cal_comps (G : Bn mg) (cp : C8.Cal P w K mg base 1 "walk_paths" spPaths []) (D : DefAt K mg "components_of" scomponents_of) : C8.Cal P w K mg base 2 "components_of" spComps [] := by
  refine D.cal sccomponents_of (fun _ _ _ _ _ _ us hl => match us, hl with | [_], _ => rfl) (fun vs H Q E h => ?_) (fun f cdv A outer s H vs Q E hr h => ?_)
  · obtain ⟨n, a, ls, rfl, _⟩ := h
    rfl
  · obtain ⟨n, a, ls, rfl, hL, hls, sy, hn, q⟩ := h
    refine ⟨_, (pss_cons (ps_set (i := 1) sccomponents_of.nd rfl (Or.inl rfl) (pe_lst pa_nil))
  (pss_cons (ps_set (i := 2) sccomponents_of.nd rfl (Or.inl rfl) pe_dnewK)
  (pss_cons (ps_for PassesOwn.never rfl (pi_range1 (by rfl) G.range (pa_cons (pe_callB (cLen K) (by rfl) G.len (by decide +kernel) (pa_cons (pv 0) pa_nil)) pa_nil)) (pg_name (i := 3) sccomponents_of.nd rfl (Or.inl rfl))
  (pss_one (ps_if (pt_cmp (pc_dnotin (hu_of hr) (pv 3) (pv 2)))
    (pss_cons (ps_set (i := 4) sccomponents_of.nd rfl (Or.inl rfl) (pe_callB (call_sortedDI rfl) (by rfl) G.sorted (by decide +kernel) (pa_cons (C8.pe_c cp hr (by decide) (by rfl) (pa_cons (pv 0) (pa_cons (pv 3) pa_nil))) pa_nil)))
      (pss_cons (ps_expr (pe_bm PySem.F.plainAttrs_dict PySem.F.slot_dict_update PySem.F.type_dict_update mt_dupdate (pv 2) (pa_cons (pe_dc (own := [("other", 5)]) rfl sccomponents_of.nd (piL K (pv 4)) (blkOk_by (N := Ncomponents_of) (sc := defScope scomponents_of) (by decide +kernel)) (fun _ _ _ _ _ => (pg_name (i := 5) sccomponents_of.nd rfl (Or.inl rfl))) (fun _ _ _ _ _ => pts_nil) (fun _ _ _ _ _ => (pv 5)) (fun _ _ _ _ _ => pe_bl)) pa_nil)))
      (pss_one (ps_expr (pe_bm PySem.F.plainAttrs_list PySem.F.slot_list_append PySem.F.type_list_append mt_append (pv 1) (pa_cons (pv 4) pa_nil))))))
    pss_nil)))
  (pss_one (ps_ret (pv 1)))))), ?_⟩
    refine ⟨Nat.zero_le _, fun F hF => fun Sn hS => ?_⟩
    have fS : H Sn = none := upd_none' hS
    have nFS : F ≠ Sn := ne_of_none upd_same hS
    obtain ⟨As0, hA0, hAl0⟩ := id hL
    have sA : Same H (upd (upd H F (.lst [])) Sn (.dK [])) := Same.trans (same_upd hF) (same_upd hS)
    have lA : As0.length = n := by rw [Paired.length hAl0]; exact hls.len
    refine ⟨_, rfl, a, _, rfl, .inl (SqL.of (sA _ _ hA0)), (n : Int), by rw [List.length_map, lA], by omega, by omega, for_range (lo := 0) (n := n) (fun i σ H1 => ∃ (gs : List (List Nat)) (es : List (L2.Key × V)) (o3 o4 : Option V), σ = [some (.ref a), some (.ref F), some (.ref Sn), o3, o4, none] ∧ Same H H1 ∧ LstR (GrpN H1 F) H1 F gs ∧ H1 Sn = some (.dK es) ∧ es.length ≤ 12 * i ∧ gs.length ≤ i ∧
      (∀ v, hasN es v = true ↔ ∃ g ∈ gs, v ∈ g) ∧ (∀ v, v < i → ∃ g ∈ gs, v ∈ g) ∧ (∀ g ∈ gs, g ≠ []) ∧ (∀ g ∈ gs, g.Nodup) ∧ (∀ g ∈ gs, ∀ u ∈ g, ∀ v, v ∈ g ↔ Reach ls u v) ∧ (∀ g ∈ gs, ∀ u ∈ g, u < n) ∧ gs.Pairwise (fun a b => ∀ v ∈ a, v ∉ b))
      ⟨[], [], none, none, rfl, sA, ⟨[], by rw [upd_ne nFS, upd_same], .nil⟩, upd_same, by simp, by simp, by simp [hasN, valV_nil], by simp, by simp, by simp, by simp, by simp, .nil⟩ ?_ ?_⟩
    · rintro i σ H1 hi ⟨gs, es, o3, o4, rfl, s1, ⟨vs, hF1, hG⟩, hS1, les, lgs, has, cov, ne, nd, cls, lt, dis⟩
      have ei : (0 : Int) + (i : Int) = ((i : Nat) : Int) := Int.zero_add _
      rw [ei]
      refine ⟨_, rfl, _, rfl, Sn, _, rfl, DGet.k (k := .inl (i : Int)) hS1, _, rfl, ?_⟩
      by_cases hh : hasN es i = true
      · rw [show (valV es (.inl (i : Int))).isSome = true from hh]
        refine iteF ⟨gs, es, _, _, rfl, s1, ⟨vs, hF1, hG⟩, hS1, by omega, by omega, has, fun v hv => ?_, ne, nd, cls, lt, dis⟩
        by_cases e : v = i
        · rw [e]
          exact (has i).mp hh
        · exact cov v (by omega)
      · have hh2 : (valV es (.inl (i : Int))).isSome = false := Bool.eq_false_iff.mpr hh
        rw [hh2]
        refine iteT ?_
        have notin : ∀ g ∈ gs, i ∉ g := fun g hg hm => hh ((has i).mpr ⟨g, hg, hm⟩)
        -- component = sorted(walk_paths(links, node))
        refine ⟨_, rfl, _, rfl, n, i, a, ls, rfl, LinksAt.same s1 hL, hls, hi, hn, fun Dp H2 kvs hDp s2 hP hok => ?_⟩
        obtain ⟨pes, hD2, hKv⟩ := hP
        have keys : pes.map (·.1) = ((kvs.map (·.1)).map fun v : Nat => (v : Int)).map Sum.inl := by
          have : ∀ {es : List (L2.Key × V)} {kvs : List (Nat × PathM)}, Paired (KvR (fun _ => True) H2) es kvs → es.map (·.1) = ((kvs.map (·.1)).map fun v : Nat => (v : Int)).map Sum.inl := fun {es kvs} h => by
            induction h with
            | nil => rfl
            | cons r t ih =>
              rw [List.map_cons, ih, r.1]
              rfl
          exact this hKv
        have card := hok.bi.card
        refine ⟨Dp, pes, _, rfl, .inl hD2, keys, by rw [List.length_map, List.length_map]; omega, fun ys cp1 hperm _ hcp => ?_⟩
        obtain ⟨g, rfl, gperm⟩ := perm_nodes hperm
        have gmap : (g.map fun v : Nat => (v : Int)).map V.int = g.map nI := by rw [List.map_map]; rfl
        rw [gmap]
        have gmem : ∀ v, v ∈ g ↔ Reach ls i v := fun v => gperm.mem_iff.trans hok.mem
        have gnd : g.Nodup := gperm.symm.nodup hok.bi.nd
        have glen : g.length ≤ 12 := by
          rw [gperm.length_eq, List.length_map]
          omega
        have s3 : Same H2 (upd H2 cp1 (.lst (g.map nI))) := same_upd hcp
        have hC3 : upd H2 cp1 (.lst (g.map nI)) cp1 = some (.lst (g.map nI)) := upd_same
        have ncF : cp1 ≠ F := fun z => by
          have z1 := s2 _ _ hF1
          rw [← z, hcp] at z1
          cases z1
        generalize upd H2 cp1 (.lst (g.map nI)) = H3 at s3 hC3 ⊢
        have s13 : Same H1 H3 := Same.trans s2 s3
        have hS3 := s13 _ _ hS1
        have hF3 := s13 _ _ hF1
        -- seen.update({other: True for other in component})
        refine ⟨_, rfl, .inr (.inr (.inl ⟨rfl, .inl ⟨es, hS3⟩⟩)), ?_⟩
        refine ⟨_, rfl, cp1, rfl, ⟨_, SqL.of hC3⟩, fun dd hdd => ?_⟩
        refine dc_list (K := K) (a := cp1) (xs := g.map nI) (fun j H4 => ∃ me : List (L2.Key × V), H4 = upd H3 dd (.dK me) ∧ me.length ≤ j ∧ ∀ v, hasN me v = decide (v ∈ g.take j)) ⟨[], rfl, Nat.le_refl _, fun v => by rw [List.take_zero]; simp [hasN, valV_nil]⟩ (fun j H4 _ hJ => ?_) (fun j x H4 hx hJ => ?_) (fun H4 hJ => ?_)
        · obtain ⟨me, rfl, _⟩ := hJ
          exact SqL.of (same_upd hdd _ _ hC3)
        · obtain ⟨me, rfl, lme, hme⟩ := hJ
          obtain ⟨v, hv, rfl⟩ := node_at' hx
          have hj : j < g.length := (List.getElem?_eq_some_iff.mp hv).1
          refine ⟨rfl, _, rfl, me, .inl (v : Int), rfl, upd_same, small_lt (by omega), putK me (.inl (v : Int)) (.bl true), upd_upd, by have := length_putK me (.inl (v : Int)) (.bl true); omega, fun u => ?_⟩
          rw [hasN_put, hme, List.take_add_one, hv]
          by_cases e1 : u = v
          · simp [e1]
          · simp [e1]
        · obtain ⟨me, rfl, lme, hme⟩ := hJ
          rw [List.length_map] at lme
          have hme2 : ∀ v, hasN me v = decide (v ∈ g) := fun v => by
            rw [hme, List.length_map, List.take_length]
          have nSd : Sn ≠ dd := ne_of_none hS3 hdd
          refine ⟨Sn, dd, es, me, rfl, rfl, nSd, by rw [upd_ne nSd]; exact hS3, upd_same, Nat.le_of_lt (small_lt (by omega)), ?_⟩
          have nFd : F ≠ dd := ne_of_none hF3 hdd
          have ncS : ∀ c xs, H3 c = some (.lst xs) → upd (upd H3 dd (.dK me)) Sn (.dK (mergeK es me)) c = some (.lst xs) := fun c xs e => by
            rw [upd_ne (ne_of e hS3 (by intro z; cases z)), upd_ne (ne_of_none e hdd)]
            exact e
          have s4 : Same H (upd (upd H3 dd (.dK me)) Sn (.dK (mergeK es me))) := fun c o e => by
            have e3 := s13 _ _ (s1 _ _ e)
            rw [upd_ne (ne_of_none e fS), upd_ne (ne_of_none e3 hdd)]
            exact e3
          have hS4 : upd (upd H3 dd (.dK me)) Sn (.dK (mergeK es me)) Sn = some (.dK (mergeK es me)) := upd_same
          generalize upd (upd H3 dd (.dK me)) Sn (.dK (mergeK es me)) = H4 at ncS s4 hS4 ⊢
          -- found.append(component)
          have hF4 := ncS _ _ hF3
          refine ⟨_, rfl, .inl ⟨rfl, _, SqL.of hF4⟩, _, rfl, F, _, _, rfl, rfl, hF4, small_lt (by rw [Paired.length hG]; omega), ?_⟩
          refine ⟨gs ++ [g], mergeK es me, _, _, rfl, fun c o e => ?_, ⟨vs ++ [.ref cp1], upd_same, Paired.app (Paired.mapP hG fun v x hx => ?_) (.cons ⟨cp1, rfl, ncF, ?_⟩ .nil)⟩, ?_, ?_, ?_, fun v => ?_, fun v hv => ?_, ?_, ?_, ?_, ?_, ?_⟩
          · show upd H4 F _ c = _
            rw [upd_ne (ne_of_none e hF)]
            exact s4 _ _ e
          · obtain ⟨b, e1, nb, hb⟩ := hx
            refine ⟨b, e1, nb, ?_⟩
            show upd H4 F _ b = _
            rw [upd_ne nb]
            exact ncS _ _ (s13 _ _ hb)
          · show upd H4 F _ cp1 = _
            rw [upd_ne ncF]
            exact ncS _ _ hC3
          · show upd H4 F _ Sn = _
            rw [upd_ne nFS.symm]
            exact hS4
          · have := length_mergeK me es
            omega
          · rw [List.length_append, List.length_singleton]
            omega
          · rw [hasN_merge, hme2, Bool.or_eq_true, decide_eq_true_eq, has]
            constructor
            · rintro (z | ⟨g', h1, h2⟩)
              · exact ⟨g, List.mem_append_right _ (List.mem_singleton.mpr rfl), z⟩
              · exact ⟨g', List.mem_append_left _ h1, h2⟩
            · rintro ⟨g', h1, h2⟩
              rcases List.mem_append.mp h1 with z | z
              · exact .inr ⟨g', z, h2⟩
              · rw [List.mem_singleton.mp z] at h2
                exact .inl h2
          · by_cases e : v = i
            · exact ⟨g, List.mem_append_right _ (List.mem_singleton.mpr rfl), (gmem v).mpr (by rw [e]; exact .refl ls i)⟩
            · obtain ⟨g', h1, h2⟩ := cov v (by omega)
              exact ⟨g', List.mem_append_left _ h1, h2⟩
          · intro g' h1
            rcases List.mem_append.mp h1 with z | z
            · exact ne g' z
            · rw [List.mem_singleton.mp z]
              intro e
              have := (gmem i).mpr (.refl ls i)
              rw [e] at this
              cases this
          · intro g' h1
            rcases List.mem_append.mp h1 with z | z
            · exact nd g' z
            · rw [List.mem_singleton.mp z]
              exact gnd
          · intro g' h1 u hu v
            rcases List.mem_append.mp h1 with z | z
            · exact cls g' z u hu v
            · rw [List.mem_singleton.mp z] at hu ⊢
              have hu2 := (gmem u).mp hu
              exact ⟨fun hv => (hu2.symm sy).trans ((gmem v).mp hv), fun r => (gmem v).mpr (hu2.trans r)⟩
          · intro g' h1 u hu
            rcases List.mem_append.mp h1 with z | z
            · exact lt g' z u hu
            · rw [List.mem_singleton.mp z] at hu
              exact ((gmem u).mp hu).lt hls hi
          · refine List.pairwise_append.mpr ⟨dis, List.pairwise_singleton _ _, fun g' h1 g2 h2 v hv hv2 => ?_⟩
            rw [List.mem_singleton.mp h2] at hv2
            have r : Reach ls v i := ((gmem v).mp hv2).symm sy
            exact notin g' h1 ((cls g' h1 v hv i).mpr r)
    · rintro σ H1 ⟨gs, es, o3, o4, rfl, s1, ⟨vs, hF1, hG⟩, hS1, les, lgs, has, cov, ne, nd, cls, lt, dis⟩
      exact ⟨_, rfl, q F H1 gs hF s1 ⟨vs, hF1, Paired.mapP hG fun v x ⟨b, e, _, hb⟩ => ⟨b, e, hb⟩⟩ ⟨ne, nd, cls, lt, cov, dis⟩⟩
end
end K29
namespace K29
open PySem PySem.Spec PyProof.Rows L2
/-! ### the class System -/
structure SysC (K : PySem.W.Frag) (C : Addr) : Prop where
  cl : Cls K C
  nM : NoAttr K C "own_modulus"
  nR : NoAttr K C "rows"
  nL : NoAttr K C "links"
  nG : NoAttr K C "groups"
def sysF (ra la ga : Addr) : List (Str × V) := [("own_modulus", .int 0), ("rows", .ref ra), ("links", .ref la), ("groups", .ref ga)]
theorem sysF_M (ra la ga : Addr) : (sysF ra la ga).lookup ("own_modulus" : Str) = some (.int 0) := by kernel_rfl
theorem sysF_R (ra la ga : Addr) : (sysF ra la ga).lookup ("rows" : Str) = some (.ref ra) := by kernel_rfl
theorem sysF_L (ra la ga : Addr) : (sysF ra la ga).lookup ("links" : Str) = some (.ref la) := by kernel_rfl
theorem sysF_G (ra la ga : Addr) : (sysF ra la ga).lookup ("groups" : Str) = some (.ref ga) := by kernel_rfl
theorem sysF_levels (ra la ga : Addr) : (sysF ra la ga).lookup ("levels" : Str) = none := by kernel_rfl
theorem sysF_bad (ra la ga : Addr) : (sysF ra la ga).lookup ("bad_cycle" : Str) = none := by kernel_rfl
theorem sysF_solved (ra la ga : Addr) : (sysF ra la ga).lookup ("solved" : Str) = none := by kernel_rfl
theorem sysF_free (ra la ga : Addr) : (sysF ra la ga).lookup ("free_groups" : Str) = none := by kernel_rfl
def SysAt (C : Addr) (H : Hp) (p : Addr) (rows : List RowM) (ls : List (List Trip)) (gs : List (List Nat)) : Prop :=
  ∃ dx ra la ga, H p = some (.ins C dx (sysF ra la ga)) ∧ RowsAt H ra rows ∧ LinksAt H la ls ∧ GroupsAt H ga gs
theorem SysAt.same {C : Addr} {H H' : Hp} {p : Addr} {rows : List RowM} {ls : List (List Trip)} {gs : List (List Nat)} (h : SysAt C H p rows ls gs) (e : Same H H') : SysAt C H' p rows ls gs := by
  obtain ⟨dx, ra, la, ga, h1, h2, h3, h4⟩ := h
  exact ⟨dx, ra, la, ga, e _ _ h1, h2.same e, LinksAt.same e h3, h4.same e⟩
theorem path_ne {H : Hp} {a F : Addr} {vs : List V} {p : PathM} {L : List Int} (h1 : H a = some (.lst vs)) (h2 : Paired (StepR H) vs p) (h3 : IntsAt H F L) (h4 : L ≠ []) : a ≠ F := fun e => by
  rw [e, h3] at h1
  have e2 : L.map V.int = vs := HO.lst.inj (Option.some.inj h1)
  cases L with
  | nil => exact h4 rfl
  | cons x r =>
    rw [List.map_cons] at e2
    subst e2
    cases h2 with
    | cons r _ =>
      obtain ⟨t, z, _⟩ := r
      cases z
section
variable {P : Program} {w : World} {K : PySem.W.Frag} {mg : Str → Option Value} {base : Heap}
def spLevels (C : Addr) : Sp := fun vs H Q _ => ∃ (p : Addr) (n : Nat) (rows : List RowM) (Pt : Nat → Int) (ls : List (List Trip)) (gs : List (List Nat)), vs = [.ref p] ∧ SysAt C H p rows ls gs ∧ SysOk n rows Pt ls gs ∧
  ∀ (l : Addr) (H' : Hp) (L : List Int), H l = none → Same H H' → IntsAt H' l L → LevOk n gs Pt L → Q (.ref l) H'
theorem met_levels {C : Addr} (G : Bn mg) (c : SysC K C) (cr : C8.Cal P w K mg base 1 "reduced_number" spReduced []) (cp : C8.Cal P w K mg base 1 "walk_paths" spPaths []) (D : MetAt K C "levels" "System.levels" sSystem_levels) : C8.Met P w K mg base 2 C "levels" (spLevels C) [] := by
  refine D.met scSystem_levels (fun _ _ _ _ _ _ us hl => match us, hl with | [_], _ => rfl) (fun vs H Q E h => ?_) (fun f cdv A outer s H vs Q E hr h => ?_)
  · obtain ⟨p, n, rows, Pt, ls, gs, rfl, _⟩ := h
    rfl
  · obtain ⟨p, n, rows, Pt, ls, gs, rfl, hA, ok, q⟩ := h
    refine ⟨_, (pss_cons (ps_setLc (i := 2) (own := [("node", 1)]) rfl scSystem_levels.nd rfl rfl (sw_true rfl rfl rfl (by decide +kernel)) (piL K (fldK K (pv 0) rfl)) (blkOk_by (N := NSystem_levels) (sc := defScope sSystem_levels) (by decide +kernel)) (fun _ _ _ _ _ => (pg_name (i := 1) scSystem_levels.nd rfl (Or.inl rfl))) (fun _ _ _ _ _ => pts_nil) (fun _ _ _ _ _ => pe_int))
  (pss_cons (ps_for PassesOwn.never rfl (piL K (fldK K (pv 0) rfl)) (pg_name (i := 3) scSystem_levels.nd rfl (Or.inl rfl))
  (pss_one (ps_for PassesOwn.never rfl (pi_items (pe_frz (C8.pe_c cp hr (by decide) (by rfl) (pa_cons (fldK K (pv 0) rfl) (pa_cons (pe_ix (ixL K) (pv 3) pe_int (fun _ _ => rfl)) pa_nil))))) (pgT K rfl (pgs_cons (pg_name (i := 1) scSystem_levels.nd rfl (Or.inl rfl)) (pgs_cons (pg_name (i := 4) scSystem_levels.nd rfl (Or.inl rfl)) pgs_nil)))
    (pss_cons (ps_set (i := 5) scSystem_levels.nd rfl (Or.inl rfl) (pe_callB (cSum K rfl) (by rfl) G.sum (by decide +kernel) (pa_cons (pe_lc (own := [("index", 6), ("way", 7)]) rfl scSystem_levels.nd (piL K (pv 4)) (blkOk_by (N := NSystem_levels) (sc := defScope sSystem_levels) (by decide +kernel)) (fun _ _ _ _ _ => (pgT K rfl (pgs_cons (pg_name (i := 6) scSystem_levels.nd rfl (Or.inl rfl)) (pgs_cons (pg_name (i := 7) scSystem_levels.nd rfl (Or.inl rfl)) pgs_nil)))) (fun _ _ _ _ _ => pts_nil) (fun _ _ _ _ _ => (pe_op op_mul (pv 7) (pe_ix (ixT K) (pe_ix (ixL K) (fldK K (pv 0) rfl) (pv 6) (fun _ _ => rfl)) pe_int (fun _ _ => rfl))))) pa_nil)))
      (pss_one (ps_asg (C8.pe_c cr hr (by decide) (by rfl) (pa_cons (pe_op op_sub pe_int (pv 5)) (pa_cons (fldK K (pv 0) rfl) pa_nil))) (pg_sub (pv 2) (pv 1) set_list)))))))
  (pss_one (ps_ret (pv 2))))), ?_⟩
    obtain ⟨dx, ra, la, ga, hp, ⟨rv, hR, hRR⟩, hL, gv, hGa, hGG⟩ := hA
    obtain ⟨As, hLA, hAl⟩ := id hL
    have n12 := ok.n12
    have lA : As.length = n := by rw [Paired.length hAl]; exact ok.ok.len
    -- found = [0 for node in self.links]
    refine ⟨_, rfl, p, C, dx, _, _, rfl, hp, c.cl, c.nL, sysF_L _ _ _, la, rfl, ⟨_, SqL.of hLA⟩, fun Fd hFd => ?_⟩
    refine lc_fg V.ref (fun _ => some (V.int 0)) (SqL.of hLA) hFd (Nat.le_of_lt (small_lt (by omega))) (fun j x acc R Nx hx hy hno => ⟨rfl, hy _ rfl⟩) ?_
    rw [fm_some2 _ (fun _ => V.int 0) (fun _ => rfl)]
    have e0 : As.map (fun _ => V.int 0) = (List.replicate n (0 : Int)).map V.int := by
      rw [List.map_const', List.map_replicate, lA]
    rw [e0]
    have hG1 : upd H Fd (.lst ((List.replicate n (0 : Int)).map V.int)) ga = some (.lst gv) := same_upd hFd _ _ hGa
    refine ⟨_, rfl, p, C, dx, _, _, rfl, same_upd hFd _ _ hp, c.cl, c.nG, sysF_G _ _ _, ga, rfl, ⟨_, SqL.of hG1⟩, for_list (K := K) (a := ga) (xs := gv) (fun i σ H1 => ∃ (L : List Int) (o1 o3 o4 o5 : Option V), σ = [some (.ref p), o1, some (.ref Fd), o3, o4, o5, none, none] ∧ Same H H1 ∧ IntsAt H1 Fd L ∧ L.length = n ∧ ∀ g ∈ gs.take i, ∀ v ∈ g, L.getD v 0 = Pt v - Pt (g.getD 0 0))
      ⟨_, none, none, none, none, rfl, same_upd hFd, upd_same, List.length_replicate, by simp⟩ (fun i σ H1 _ hI => ?_) ?_ ?_⟩
    · obtain ⟨_, _, _, _, _, _, s1, _⟩ := hI
      exact SqL.of (s1 _ _ hGa)
    · rintro i x σ H1 hx ⟨L, o1, o3, o4, o5, rfl, s1, hL1, lL, val⟩
      obtain ⟨g, hg, b, rfl, hb⟩ := Paired.at' hGG hx
      have gm : g ∈ gs := List.mem_of_getElem? hg
      have gne := ok.co.ne g gm
      have g0 : g[0]? = some (g.getD 0 0) := by
        cases g with
        | nil => exact absurd rfl gne
        | cons y r => rfl
      have g0m : g.getD 0 0 ∈ g := List.mem_of_getElem? g0
      have g0n := ok.co.lt g gm _ g0m
      have hb1 : NodesAt H1 b g := s1 _ _ hb
      refine ⟨_, rfl, p, C, dx, _, _, rfl, s1 _ _ hp, c.cl, c.nL, sysF_L _ _ _, _, rfl, b, _, 0, _, rfl, rfl, SqL.of hb1, atI_node (i := 0) g0, n, g.getD 0 0, la, ls, rfl, LinksAt.same s1 hL, ok.ok, g0n, n12, fun Dp H2 kvs hDp s2 hP hok => ?_⟩
      obtain ⟨es, hD2, hKv⟩ := hP
      refine ⟨Dp, _, rfl, hD2, True.intro, fun od => ?_⟩
      have sH2 : Same H (upd H2 Dp (.frz od (.dK es))) := fun c o e => by
        have e1 := s1 _ _ e
        rw [upd_ne (ne_of_none e1 hDp)]
        exact s2 _ _ e1
      have s12 : Same H1 (upd H2 Dp (.frz od (.dK es))) := fun c o e => by
        rw [upd_ne (ne_of_none e hDp)]
        exact s2 _ _ e
      have hD3 : upd H2 Dp (.frz od (.dK es)) Dp = some (.frz od (.dK es)) := upd_same
      have hKv3 : Paired (KvR (fun a => a ≠ Fd) (upd H2 Dp (.frz od (.dK es)))) es kvs := Paired.mapP hKv fun e x ⟨e1, a, e2, _, vs, h1, h2⟩ => by
        have tt : Tups H2 (upd H2 Dp (.frz od (.dK es))) := fun c xs h => by
          rw [upd_ne (ne_of h hD2 (by intro z; cases z))]
          exact h
        refine ⟨e1, a, e2, path_ne h1 h2 (s2 _ _ hL1) (fun z => ?_), vs, ?_, Paired.mapP h2 fun v x => StepR.mono tt⟩
        · rw [z] at lL
          rw [← lL] at g0n
          exact Nat.not_lt_zero _ g0n
        · rw [upd_ne (ne_of h1 hD2 (by intro z; cases z))]
          exact h1
      generalize upd H2 Dp (.frz od (.dK es)) = H3 at sH2 s12 hD3 hKv3 ⊢
      have nFD : Fd ≠ Dp := ne_of_none hL1 hDp
      have lK : es.length = kvs.length := Paired.length hKv3
      refine ⟨Dp, od, es, rfl, hD3, for_it (walk_items (d := Dp) (o := od) (kvs := es)) (fun k σ H4 => ∃ (L : List Int) (o1 o4 o5 : Option V), σ = [some (.ref p), o1, some (.ref Fd), some (.ref b), o4, o5, none, none] ∧ Same H H4 ∧ SameP Fd H3 H4 ∧ IntsAt H4 Fd L ∧ L.length = n ∧ (∀ g ∈ gs.take i, ∀ v ∈ g, L.getD v 0 = Pt v - Pt (g.getD 0 0)) ∧ ∀ x ∈ kvs.take k, L.getD x.1 0 = Pt x.1 - Pt (g.getD 0 0))
        ⟨L, o1, o4, o5, rfl, sH2, SameP.refl _ _, s12 _ _ hL1, lL, val, by simp⟩ (fun k σ H4 _ hI => ?_) ?_ ?_⟩
      · obtain ⟨_, _, _, _, _, _, s4, _⟩ := hI
        exact s4 _ _ nFD.symm hD3
      · rintro k x σ H4 H5 hk ⟨L, o1, o4, o5, rfl, sH4, s34, hL4, lL, val, cur⟩ ⟨T, x1, x2, rfl, hT, rfl, f1, f2⟩
        obtain ⟨kv, hkv⟩ : ∃ kv, kvs[k]? = some kv := ⟨kvs[k]'(by omega), List.getElem?_eq_getElem (by omega)⟩
        obtain ⟨e, he, e1, pa, e2, npa, pvs, hpa, hpp⟩ := Paired.at hKv3 hkv
        have fx1 : x1 = nI kv.1 := by
          have z : some (kV e.1) = some x1 := by rw [← f1]; simp [he]
          rw [← Option.some.inj z, e1]
          rfl
        have fx2 : x2 = .ref pa := by
          have z : some e.2 = some x2 := by rw [← f2]; simp [he]
          rw [← Option.some.inj z, e2]
        subst fx1
        subst fx2
        have kvm : kv ∈ kvs := List.mem_of_getElem? hkv
        have wk := hok.bi.wk kv kvm
        have klt := hok.bi.lt kv kvm
        have plen := hok.bi.len kv kvm
        have card := hok.bi.card
        obtain ⟨psum, pok⟩ := ok.pathSum wk
        have sT : Same H4 (upd H4 T (.tup [nI kv.1, .ref pa])) := same_upd hT
        have sP3 : Same H (upd H4 T (.tup [nI kv.1, .ref pa])) := Same.trans sH4 sT
        have hT5 : upd H4 T (.tup [nI kv.1, .ref pa]) T = some (.tup [nI kv.1, .ref pa]) := upd_same
        have s35 : SameP Fd H3 (upd H4 T (.tup [nI kv.1, .ref pa])) := fun c o n h => sT _ _ (s34 _ _ n h)
        have hL5 := sT _ _ hL4
        generalize upd H4 T (.tup [nI kv.1, .ref pa]) = H5 at sT sP3 hT5 s35 hL5 ⊢
        have tt35 : Tups H3 H5 := fun c xs h => s35 _ _ (ne_of h (s12 _ _ hL1) (by intro z; cases z)) h
        have hpa5 : H5 pa = some (.lst pvs) := s35 _ _ npa hpa
        have lpv : pvs.length = kv.2.length := Paired.length hpp
        refine ⟨T, _, rfl, SqT.of hT5, rfl, _, _, rfl, _, _, rfl, rfl, ?_⟩
        -- total = sum([...])
        refine ⟨_, rfl, pa, rfl, ⟨_, SqL.of hpa5⟩, fun d1 hd1 => ?_⟩
        refine lc_fP (ys := kv.2) (fun x => some (V.int (stepD rows x))) (SqL.of hpa5) (Paired.mapP hpp fun v x => StepR.mono tt35) hd1 (Nat.le_of_lt (small_lt (by omega))) (fun j x y acc R Nx hx hy hr2 hyes hno => ?_) ?_
        · obtain ⟨t, rfl, ht⟩ := hr2
          obtain ⟨y1, y2⟩ := pok y (List.mem_of_getElem? hy)
          have s6 : Same H5 (upd H5 d1 (.lst acc)) := same_upd hd1
          have sH6 : Same H (upd H5 d1 (.lst acc)) := Same.trans sP3 s6
          obtain ⟨rt, hrt, tr, rfl, htr⟩ := Paired.at hRR (row_at y1)
          refine ⟨t, _, rfl, SqT.of (s6 _ _ ht), rfl, _, _, rfl, _, _, rfl, rfl, rfl, ?_⟩
          refine ⟨_, rfl, _, rfl, p, C, dx, _, _, rfl, sH6 _ _ hp, c.cl, c.nR, sysF_R _ _ _, _, rfl, ra, _, _, _, rfl, rfl, SqL.of (sH6 _ _ hR), atI_nat hrt, tr, _, _, _, rfl, rfl, SqT.of (sH6 _ _ htr), atI_nat (j := 2) rfl, _, _, rfl, rfl, .inl ?_, hyes _ rfl⟩
          rcases y2 with z | z <;> rw [z] <;> decide
        · rw [fm_some2 _ (fun x => V.int (stepD rows x)) (fun _ => rfl)]
          have em : kv.2.map (fun x => V.int (stepD rows x)) = (kv.2.map (stepD rows)).map V.int := by rw [List.map_map] <;> rfl
          rw [em]
          refine ⟨d1, _, rfl, SqL.of upd_same, ?_⟩
          have s6 : Same H5 (upd H5 d1 (.lst ((kv.2.map (stepD rows)).map V.int))) := same_upd hd1
          have s36 : SameP Fd H3 (upd H5 d1 (.lst ((kv.2.map (stepD rows)).map V.int))) := fun c o n h => s6 _ _ (s35 _ _ n h)
          generalize upd H5 d1 (.lst ((kv.2.map (stepD rows)).map V.int)) = H6 at s6 s36 ⊢
          have sH6 : Same H H6 := Same.trans sP3 s6
          have hL6 := s6 _ _ hL5
          refine ⟨_, rfl, _, _, rfl, rfl, _, rfl, p, C, dx, _, _, rfl, sH6 _ _ hp, c.cl, c.nM, sysF_M _ _ _, _, rfl, ?_⟩
          refine ⟨_, rfl, _, rfl, Fd, _, _, kv.1, rfl, rfl, hL6, ixN_nat (by rw [List.length_map]; omega), ?_⟩
          have es : (0 : Int) - (kv.2.map (stepD rows)).sum = Pt kv.1 - Pt (g.getD 0 0) := by
            have z : (kv.2.map (stepD rows)).sum = Pt (g.getD 0 0) - Pt kv.1 := psum
            rw [z]
            omega
          have kvg : kv.1 ∈ g := by
            have r : Reach ls (g.getD 0 0) kv.1 := ⟨_, wk⟩
            exact (ok.co.cls g gm _ g0m kv.1).mpr r
          refine ⟨L.set kv.1 (Pt kv.1 - Pt (g.getD 0 0)), _, _, _, rfl, fun c o h => ?_, fun c o n h => ?_, ?_, by rw [List.length_set]; exact lL, fun g' hg' v hv => ?_, fun x hx => ?_⟩
          · show upd H6 Fd _ c = _
            rw [upd_ne (ne_of_none h hFd)]
            exact sH6 _ _ h
          · show upd H6 Fd _ c = _
            rw [upd_ne n]
            exact s36 _ _ n h
          · show upd H6 Fd _ Fd = _
            rw [upd_same, es, List.map_set]
          · have nv : kv.1 ≠ v := fun z => by
              have := pairwise_take ok.co.dis hg hg' v hv
              rw [← z] at this
              exact this kvg
            rw [getD_set_ne nv]
            exact val g' hg' v hv
          · rw [List.take_add_one, hkv] at hx
            by_cases z : kv.1 = x.1
            · rw [← z, getD_set_eq (by omega)]
            · rw [getD_set_ne z]
              rcases List.mem_append.mp hx with q1 | q1
              · exact cur x q1
              · exact absurd (congrArg Prod.fst (List.mem_singleton.mp q1)).symm z
      · rintro σ H4 ⟨L, o1, o4, o5, rfl, sH4, s34, hL4, lL, val, cur⟩
        rw [lK, List.take_length] at cur
        refine ⟨L, _, _, _, _, rfl, sH4, hL4, lL, fun g' hg' v hv => ?_⟩
        rw [List.take_add_one, hg] at hg'
        rcases List.mem_append.mp hg' with z | z
        · exact val g' z v hv
        · have z : g' = g := List.mem_singleton.mp z
          subst z
          have hr2 := (ok.co.cls g' gm _ g0m v).mp hv
          obtain ⟨x, hx, e⟩ := List.mem_map.mp (hok.mem.mpr hr2)
          rw [← e]
          exact cur x hx
    · rintro σ H1 ⟨L, o1, o3, o4, o5, rfl, s1, hL1, lL, val⟩
      rw [Paired.length hGG, List.take_length] at val
      exact ⟨_, rfl, q Fd H1 L hFd s1 hL1 ⟨lL, val⟩⟩
end
end K29
namespace K29
open PySem PySem.Spec PyProof.Rows L2
structure MakAt (K : PySem.W.Frag) (C : Addr) (mg : Str → Option Value) (x qual : Str) (st : Stmt) : Prop where
  ex : ∃ (f : Addr) (fd : FuncData), Mk K C f ∧ FunD K "__init__" qual (defArgs st) (defBody st) (defScope st) [] [] f fd ∧ mg x = some (.ref C)
def sf1 : List (Str × V) := [("own_modulus", .int 0)]
def sf2 (v : V) : List (Str × V) := [("own_modulus", .int 0), ("rows", v)]
def sf3 (v w : V) : List (Str × V) := [("own_modulus", .int 0), ("rows", v), ("links", w)]
theorem put1 : putF ("own_modulus" : Str) (V.int 0) [] = sf1 := by kernel_rfl
theorem put2 (v : V) : putF ("rows" : Str) v sf1 = sf2 v := by kernel_rfl
theorem put3 (v w : V) : putF ("links" : Str) w (sf2 v) = sf3 v w := by kernel_rfl
theorem put4 (ra la ga : Addr) : putF ("groups" : Str) (.ref ga) (sf3 (.ref ra) (.ref la)) = sysF ra la ga := by kernel_rfl
theorem lookL3 (v w : V) : (sf3 v w).lookup ("links" : Str) = some w := by kernel_rfl
/-- a fresh pair, not at D -/
def PairN (D : Addr) (H : Hp) (v : V) (e : Nat × Nat) : Prop := ∃ t, v = .ref t ∧ t ≠ D ∧ H t = some (.tup [.int e.1, .int e.2])
theorem PairN.pairs {D : Addr} {H : Hp} {vs : List V} {es : List (Nat × Nat)} (h : Paired (PairN D H) vs es) : Paired (PairR H) vs es := Paired.mapP h fun v x ⟨t, a, _, b⟩ => ⟨t, a, b⟩
theorem PairN.mono {D : Addr} {H H' : Hp} {v : V} {e : Nat × Nat} (s : SameP D H H') (h : PairN D H v e) : PairN D H' v e := by
  obtain ⟨t, a, n, b⟩ := h
  exact ⟨t, a, n, s _ _ n b⟩
section
variable {P : Program} {w : World} {K : PySem.W.Frag} {mg : Str → Option Value} {base : Heap}
theorem MakAt.mak {C : Addr} {x qual : Str} {st : Stmt} {N ps : List Str} {k : Nat} {sp : Sp} (D : MakAt K C mg x qual st) (S : FnScope N ps (defScope st))
    (hb : ∀ (kV doc pm : Value) (an : Option Addr) (cdv ct : Value) (us : List Value), us.length = ps.length → bindArgs (PySem.W.fnOf "__init__" qual (defArgs st) (defBody st) (defScope st) .none kV doc pm an cdv ct) ⟨us, []⟩ = pure (ps.zip us))
    (len : ∀ vs H Q E, sp vs H Q E → vs.length = ps.length) (hbody : Body P w K mg base N qual st k sp) : C8.Mak P w K mg base (k + 1) x C sp [] := by
  obtain ⟨f, fd, m, F, hm⟩ := D.ex
  refine ⟨f, fd, ps, [], m, F.ok S len (fun cdv A outer s H vs Q E hr h => ?_), hm, FunD.bindsN F hb, .nil⟩
  obtain ⟨t, h1, h2⟩ := hbody f cdv A outer s H vs Q E hr h
  exact ⟨t, h1.nox, h2⟩
def spSysInit (C : Addr) : Sp := fun vs H Q _ => ∃ (p dx : Addr) (n : Nat) (ra : Addr) (rows : List RowM), vs = [.ref p, .int n, .int 0, .ref ra] ∧ H p = some (.ins C dx []) ∧ RowsAt H ra rows ∧ n ≤ 12 ∧ rows.length ≤ 18 ∧ (∀ r ∈ rows, r.1 < n ∧ r.2.1 < n) ∧
  ∀ (H' : Hp) (gs : List (List Nat)), SameP p H H' → SysAt C H' p rows (linksN n (esOf rows) (forestN n (esOf rows))) gs → Comps (linksN n (esOf rows) (forestN n (esOf rows))) n gs → Q .non H'
theorem mak_sys {C : Addr} (c : SysC K C) (cf : C8.Cal P w K mg base 1 "forest_of" spForest []) (cl : C8.Cal P w K mg base 1 "links_of" spLinksOf []) (cc : C8.Cal P w K mg base 2 "components_of" spComps []) (D : MakAt K C mg "System" "System.__init__" sSystem_init) : C8.Mak P w K mg base 3 "System" C (spSysInit C) [] := by
  refine D.mak scSystem_init (fun _ _ _ _ _ _ us hl => match us, hl with | [_, _, _, _], _ => rfl) (fun vs H Q E h => ?_) (fun f cdv A outer s H vs Q E hr h => ?_)
  · obtain ⟨p, dx, n, ra, rows, rfl, _⟩ := h
    rfl
  · obtain ⟨p, dx, n, ra, rows, rfl, hp, ⟨rv, hR, hRR⟩, n12, l18, lt, q⟩ := h
    refine ⟨_, (pss_cons (ps_fld (pv 0) (pv 2) rfl)
  (pss_cons (ps_fld (pv 0) (pv 3) rfl)
  (pss_cons (ps_setLc (i := 4) (own := [("tail", 5), ("head", 6), ("difference", 7)]) rfl scSystem_init.nd rfl rfl (sw_true rfl rfl rfl (by decide +kernel)) (piL K (pv 3)) (blkOk_by (N := NSystem_init) (sc := defScope sSystem_init) (by decide +kernel)) (fun _ _ _ _ _ => (pgT K rfl (pgs_cons (pg_name (i := 5) scSystem_init.nd rfl (Or.inl rfl)) (pgs_cons (pg_name (i := 6) scSystem_init.nd rfl (Or.inl rfl)) (pgs_cons (pg_name (i := 7) scSystem_init.nd rfl (Or.inl rfl)) pgs_nil))))) (fun _ _ _ _ _ => pts_nil) (fun _ _ _ _ _ => (pe_tup (pa_cons (pv 5) (pa_cons (pv 6) pa_nil)))))
  (pss_cons (ps_fld (pv 0) (C8.pe_c cl hr (by decide) (by rfl) (pa_cons (pv 1) (pa_cons (pv 4) (pa_cons (C8.pe_c cf hr (by decide) (by rfl) (pa_cons (pv 1) (pa_cons (pv 4) pa_nil))) pa_nil)))) rfl)
  (pss_one (ps_fld (pv 0) (C8.pe_c cc hr (by decide) (by rfl) (pa_cons (fldK K (pv 0) rfl) pa_nil)) rfl)))))), ?_⟩
    refine ⟨_, rfl, _, rfl, p, C, dx, _, rfl, hp, c.cl, c.nM, (by show 0 < 1000; decide), ?_⟩
    refine ⟨_, rfl, _, rfl, p, C, dx, _, rfl, upd_same, c.cl, c.nR, (by show 1 < 1000; decide), ?_⟩
    rw [upd_upd, put1, put2]
    have s1 : SameP p H (upd H p (.ins C dx (sf2 (.ref ra)))) := SameP.upd p H _
    have hp1 : upd H p (.ins C dx (sf2 (.ref ra))) p = some (.ins C dx (sf2 (.ref ra))) := upd_same
    generalize upd H p (.ins C dx (sf2 (.ref ra))) = H1 at s1 hp1 ⊢
    have nra : ra ≠ p := fun z => by
      rw [z, hp] at hR
      cases hR
    have tt1 : Tups H H1 := fun b xs h => s1 _ _ (ne_of h hp (by intro z; cases z)) h
    have hR1 : H1 ra = some (.lst rv) := s1 _ _ nra hR
    have lrv : rv.length = rows.length := Paired.length hRR
    refine ⟨_, rfl, ra, rfl, ⟨_, SqL.of hR1⟩, fun Dp hDp => ?_⟩
    refine lc_new (ys := rows) (fun r : RowM => (r.1, r.2.1)) (PairN Dp) (SqL.of hR1) (Paired.mapP hRR fun v x => RowR.mono tt1) hDp (Nat.le_of_lt (small_lt (by omega))) (fun H2 H3 v z e h => PairN.mono e h) (fun i x r H2 R N hx hr2 ⟨t, ex, ht⟩ s2 hD2 hy => ?_) (fun H2 acc s2 hD2 hP2 => ?_)
    · subst ex
      obtain ⟨acc, hD2⟩ := hD2
      refine ⟨t, _, rfl, SqT.of (s2 _ _ ht), rfl, _, _, rfl, _, _, rfl, _, _, rfl, rfl, rfl, ?_⟩
      refine ⟨_, rfl, _, rfl, (by show 2 ≤ sizeLine; decide), fun T hT => ?_⟩
      exact hy (.ref T) _ (same_upd hT) ⟨T, rfl, (ne_of_none hD2 hT).symm, upd_same⟩
    · have hp2 := s2 _ _ hp1
      have hE2 : EdgesAt H2 Dp (esOf rows) := ⟨acc, hD2, PairN.pairs hP2⟩
      have les : (esOf rows).length = rows.length := List.length_map _
      have hes : EdOk n (esOf rows) := fun e he => by
        obtain ⟨r, hr, rfl⟩ := List.mem_map.mp he
        exact lt r hr
      refine ⟨_, rfl, _, rfl, _, rfl, _, rfl, n, Dp, esOf rows, rfl, hE2, n12, (by omega), hes, fun fo H3 hfo s3 hF3 => ?_⟩
      have hp3 := s3 _ _ hp2
      refine ⟨n, Dp, fo, esOf rows, _, rfl, hE2.same s3, hF3, n12, ?_, forestN_lt, hes, fun ll H4 hll s4 hL4 => ?_⟩
      · have := (fState_len n (esOf rows) (esOf rows).length).2
        show (fState n (esOf rows) (esOf rows).length).2.length ≤ 18
        omega
      have hp4 := s4 _ _ hp3
      refine ⟨_, rfl, p, C, dx, _, rfl, hp4, c.cl, c.nL, (by show 2 < 1000; decide), ?_⟩
      rw [put3]
      have s5 : SameP p H4 (upd H4 p (.ins C dx (sf3 (.ref ra) (.ref ll)))) := SameP.upd p H4 _
      have hp5 : upd H4 p (.ins C dx (sf3 (.ref ra) (.ref ll))) p = some (.ins C dx (sf3 (.ref ra) (.ref ll))) := upd_same
      have nI : ∀ b o, H4 b = some o → (∀ a b c, o ≠ .ins a b c) → b ≠ p := fun b o h z e => by
        rw [e, hp4] at h
        exact z _ _ _ (Option.some.inj h).symm
      have hL5 : LinksAt (upd H4 p (.ins C dx (sf3 (.ref ra) (.ref ll)))) ll (linksN n (esOf rows) (forestN n (esOf rows))) := by
        obtain ⟨As, h1, h2⟩ := hL4
        refine ⟨As, s5 _ _ (nI _ _ h1 fun a b c z => by cases z) h1, Paired.mapP h2 fun a l ⟨vs, h3, h4⟩ => ⟨vs, s5 _ _ (nI _ _ h3 fun a b c z => by cases z) h3, Paired.mapP h4 fun v x => TripR.mono fun b xs h => s5 _ _ (nI _ _ h fun a b c z => by cases z) h⟩⟩
      have s15 : Same H1 H4 := Same.trans s2 (Same.trans s3 s4)
      generalize upd H4 p (.ins C dx (sf3 (.ref ra) (.ref ll))) = H5 at s5 hp5 hL5 ⊢
      refine ⟨_, rfl, p, C, dx, _, _, rfl, hp5, c.cl, c.nL, lookL3 _ _, n, ll, _, rfl, hL5, lsOk_of hes forestN_lt, symL_of hes forestN_lt, n12, fun lg H6 gs hlg s6 hG6 hco => ?_⟩
      have hp6 := s6 _ _ hp5
      refine ⟨_, rfl, p, C, dx, _, rfl, hp6, c.cl, c.nG, (by show 3 < 1000; decide), ?_⟩
      rw [put4]
      have s7 : SameP p H6 (upd H6 p (.ins C dx (sysF ra ll lg))) := SameP.upd p H6 _
      have nI6 : ∀ b o, H6 b = some o → (∀ a b c, o ≠ .ins a b c) → b ≠ p := fun b o h z e => by
        rw [e, hp6] at h
        exact z _ _ _ (Option.some.inj h).symm
      have sp : SameP p H (upd H6 p (.ins C dx (sysF ra ll lg))) := s1.trans ((SameP.of s15).trans (s5.trans ((SameP.of s6).trans s7)))
      refine q _ gs sp ⟨dx, ra, ll, lg, upd_same, ⟨rv, sp _ _ nra hR, Paired.mapP hRR fun v x => RowR.mono fun b xs h => sp _ _ (ne_of h hp (by intro z; cases z)) h⟩, ?_, ?_⟩ hco
      · obtain ⟨As, h1, h2⟩ := LinksAt.same s6 hL5
        refine ⟨As, s7 _ _ (nI6 _ _ h1 fun a b c z => by cases z) h1, Paired.mapP h2 fun a l ⟨vs, h3, h4⟩ => ⟨vs, s7 _ _ (nI6 _ _ h3 fun a b c z => by cases z) h3, Paired.mapP h4 fun v x => TripR.mono fun b xs h => s7 _ _ (nI6 _ _ h fun a b c z => by cases z) h⟩⟩
      · obtain ⟨vs, h1, h2⟩ := hG6
        exact ⟨vs, s7 _ _ (nI6 _ _ h1 fun a b c z => by cases z) h1, Paired.mapP h2 fun v x ⟨a, r, h3⟩ => ⟨a, r, s7 _ _ (nI6 _ _ h3 fun a b c z => by cases z) h3⟩⟩
end
end K29
namespace K29
open PySem PySem.Spec PyProof.Rows L2
theorem LevOk.diff {n : Nat} {rows : List RowM} {Pt : Nat → Int} {ls : List (List Trip)} {gs : List (List Nat)} {L : List Int} (ok : SysOk n rows Pt ls gs) (lv : LevOk n gs Pt L) {r : RowM} (hr : r ∈ rows) : L.getD r.1 0 - L.getD r.2.1 0 - r.2.2 = 0 := by
  obtain ⟨h1, h2⟩ := ok.lt r hr
  obtain ⟨g, hg, hv⟩ := ok.co.cov r.1 h1
  have hu := (ok.co.cls g hg r.1 hv r.2.1).mpr (ok.con r hr)
  rw [lv.val g hg _ hv, lv.val g hg _ hu, ok.pot r hr]
  omega
section
variable {P : Program} {w : World} {K : PySem.W.Frag} {mg : Str → Option Value} {base : Heap}
def spBad (C : Addr) : Sp := fun vs H Q _ => ∃ (p : Addr) (n : Nat) (rows : List RowM) (Pt : Nat → Int) (ls : List (List Trip)) (gs : List (List Nat)), vs = [.ref p] ∧ SysAt C H p rows ls gs ∧ SysOk n rows Pt ls gs ∧ ∀ H', Same H H' → Q .non H'
theorem met_bad {C : Addr} (G : Bn mg) (c : SysC K C) (cr : C8.Cal P w K mg base 1 "reduced_number" spReduced []) (ml : C8.Met P w K mg base 2 C "levels" (spLevels C) []) (D : MetAt K C "bad_cycle" "System.bad_cycle" sSystem_bad_cycle) : C8.Met P w K mg base 3 C "bad_cycle" (spBad C) [] := by
  refine D.met scSystem_bad_cycle (fun _ _ _ _ _ _ us hl => match us, hl with | [_], _ => rfl) (fun vs H Q E h => ?_) (fun f cdv A outer s H vs Q E hr h => ?_)
  · obtain ⟨p, n, rows, Pt, ls, gs, rfl, _⟩ := h
    rfl
  · obtain ⟨p, n, rows, Pt, ls, gs, rfl, hA, ok, q⟩ := h
    refine ⟨_, (pss_cons (ps_set (i := 1) scSystem_bad_cycle.nd rfl (Or.inl rfl) (C8.pe_mt0 ml hr (by decide) (pv 0)))
  (pss_cons (ps_for PassesOwn.never rfl (pi_enum (by rfl) G.enumerate (pa_cons (fldK K (pv 0) rfl) pa_nil)) (pgT K rfl (pgs_cons (pg_name (i := 2) scSystem_bad_cycle.nd rfl (Or.inl rfl)) (pgs_cons (pgT K rfl (pgs_cons (pg_name (i := 3) scSystem_bad_cycle.nd rfl (Or.inl rfl)) (pgs_cons (pg_name (i := 4) scSystem_bad_cycle.nd rfl (Or.inl rfl)) (pgs_cons (pg_name (i := 5) scSystem_bad_cycle.nd rfl (Or.inl rfl)) pgs_nil)))) pgs_nil)))
  (pss_one (ps_if (pt_cmpR op_ne (C8.pe_c cr hr (by decide) (by rfl) (pa_cons (pe_op op_sub (pe_op op_sub (pe_ix (ixL K) (pv 1) (pv 3) (fun _ _ => rfl)) (pe_ix (ixL K) (pv 1) (pv 4) (fun _ _ => rfl))) (pv 5)) (pa_cons (fldK K (pv 0) rfl) pa_nil))) pe_int (nomark _))
    (pss_one ps_never)
    pss_nil)))
  (pss_one (ps_ret pe_non)))), ?_⟩
    obtain ⟨dx, ra, la, ga, hp, ⟨rv, hR, hRR⟩, hL, hG⟩ := id hA
    refine ⟨_, rfl, p, dx, sysF ra la ga, rfl, hp, sysF_levels _ _ _, p, n, rows, Pt, ls, gs, rfl, hA, ok, fun Fa H1 L hFa s1 hL1 lv => ?_⟩
    have lL := lv.len
    refine ⟨_, rfl, p, C, dx, _, _, rfl, s1 _ _ hp, c.cl, c.nR, sysF_R _ _ _, ra, rv, rfl, SqL.of (s1 _ _ hR), for_it (walk_enum (K := K) (a := ra) (xs := rv)) (fun i σ H2 => ∃ o2 o3 o4 o5, σ = [some (.ref p), some (.ref Fa), o2, o3, o4, o5] ∧ Same H1 H2)
      ⟨none, none, none, none, rfl, L2.Same.refl _⟩ (fun i σ H2 _ hI => ?_) ?_ ?_⟩
    · obtain ⟨_, _, _, _, _, s2⟩ := hI
      exact SqL.of (s2 _ _ (s1 _ _ hR))
    · rintro i x σ H2 H3 hi ⟨o2, o3, o4, o5, rfl, s2⟩ ⟨T, x1, x2, rfl, hT, rfl, f1, f2⟩
      cases f1
      obtain ⟨r, hr2, t, rfl, ht⟩ := Paired.at' hRR f2
      have rm : r ∈ rows := List.mem_of_getElem? hr2
      obtain ⟨b1, b2⟩ := ok.lt r rm
      have sT : Same H2 (upd H2 T (.tup [.int (i : Nat), .ref t])) := same_upd hT
      have s3 := Same.trans s2 sT
      have hT3 : upd H2 T (.tup [.int (i : Nat), .ref t]) T = some (.tup [.int (i : Nat), .ref t]) := upd_same
      generalize upd H2 T (.tup [.int (i : Nat), .ref t]) = H3 at sT s3 hT3 ⊢
      have s03 := Same.trans s1 s3
      refine ⟨T, _, rfl, SqT.of hT3, rfl, _, _, rfl, _, _, rfl, ⟨t, _, rfl, SqT.of (s03 _ _ ht), rfl, _, _, rfl, _, _, rfl, _, _, rfl, rfl, rfl, ?_⟩⟩
      have hL3 : IntsAt H3 Fa L := s3 _ _ hL1
      refine ⟨_, rfl, _, rfl, Fa, _, _, _, rfl, rfl, SqL.of hL3, atI_int (getD_at (i := r.1) (by omega)), _, rfl, _, rfl, Fa, _, _, _, rfl, rfl, SqL.of hL3, atI_int (getD_at (i := r.2.1) (by omega)), _, _, rfl, rfl, _, rfl, _, _, rfl, rfl, ?_⟩
      refine ⟨_, rfl, p, C, dx, _, _, rfl, s03 _ _ hp, c.cl, c.nM, sysF_M _ _ _, _, rfl, rfl, _, rfl, ?_⟩
      rw [lv.diff ok rm]
      exact iteF ⟨_, _, _, _, rfl, s3⟩
    · rintro σ H2 ⟨o2, o3, o4, o5, rfl, s2⟩
      exact q H2 (Same.trans s1 s2)
end
end K29
namespace K29
open PySem PySem.Spec PyProof.Rows L2
section
variable {P : Program} {w : World} {K : PySem.W.Frag} {mg : Str → Option Value} {base : Heap}
def spSolved (K : PySem.W.Frag) (C : Addr) : Sp := fun vs H Q _ => ∃ (p T : Addr) (n : Nat) (rows : List RowM) (Pt : Nat → Int) (ls : List (List Trip)) (gs : List (List Nat)), vs = [.ref p, .ref T] ∧ SysAt C H p rows ls gs ∧ SysOk n rows Pt ls gs ∧ SqT K H T [] ∧
  ∀ (t l : Addr) (H' : Hp) (L : List Int), H t = none → H l = none → Same H H' → H' t = some (.tup [.str "potential", .ref l]) → IntsAt H' l L → LevOk n gs Pt L → Q (.ref t) H'
theorem met_solved {C : Addr} (G : Bn mg) (c : SysC K C) (ml : C8.Met P w K mg base 2 C "levels" (spLevels C) []) (mb : C8.Met P w K mg base 3 C "bad_cycle" (spBad C) []) (D : MetAt K C "solved" "System.solved" sSystem_solved) : C8.Met P w K mg base 4 C "solved" (spSolved K C) [] := by
  refine D.met scSystem_solved (fun _ _ _ _ _ _ us hl => match us, hl with | [_, _], _ => rfl) (fun vs H Q E h => ?_) (fun f cdv A outer s H vs Q E hr h => ?_)
  · obtain ⟨p, T, n, rows, Pt, ls, gs, rfl, _⟩ := h
    rfl
  · obtain ⟨p, T, n, rows, Pt, ls, gs, rfl, hA, ok, hT, q⟩ := h
    refine ⟨_, (pss_cons (ps_set (i := 2) scSystem_solved.nd rfl (Or.inl rfl) (C8.pe_mt0 mb hr (by decide) (pv 0)))
  (pss_cons (ps_if (pt_cmpR op_notN (pv 2) pe_non (nomark _))
  (pss_one ps_never)
  pss_nil)
  (pss_cons (ps_set (i := 3) scSystem_solved.nd rfl (Or.inl rfl) (C8.pe_mt0 ml hr (by decide) (pv 0)))
  (pss_cons (ps_for PassesOwn.never rfl (piL K (fldK K (pv 0) rfl)) (pg_name (i := 4) scSystem_solved.nd rfl (Or.inr rfl))
  (pss_cons (ps_setLc (i := 6) (own := [("node", 5)]) rfl scSystem_solved.nd rfl rfl (sw_true rfl rfl rfl (by decide +kernel)) (piL K (pe_callB (cr_sortedT0 K) (by rfl) G.sorted (by decide +kernel) (pa_cons (pv 1) pa_nil))) (blkOk_by (N := NSystem_solved) (sc := defScope sSystem_solved) (by decide +kernel)) (fun _ _ _ _ _ => (pg_name (i := 5) scSystem_solved.nd rfl (Or.inl rfl))) (fun _ _ _ _ _ => (pts_one (pt_cmpR (opIn K) (pv 5) (pv 4) (by rfl)))) (fun _ _ _ _ _ => (pv 5)))
    (pss_cons (ps_for PassesOwn.never rfl (piL K (pv 6)) (pg_name (i := 5) scSystem_solved.nd rfl (Or.inl rfl))
    (pss_one ps_never))
    (pss_one (ps_if (pt_truth (pv 6) (by intro _; rfl))
    (pss_cons ps_never (pss_one ps_never))
    pss_nil)))))
  (pss_one (ps_ret (pe_tup (pa_cons pe_str (pa_cons (pv 3) pa_nil))))))))), ?_⟩
    obtain ⟨dx, ra, la, ga, hp, hR, hL, gv, hGa, hGG⟩ := id hA
    refine ⟨_, rfl, p, dx, sysF ra la ga, rfl, hp, sysF_bad _ _ _, p, n, rows, Pt, ls, gs, rfl, hA, ok, fun H1 s1 => ?_⟩
    refine ⟨_, rfl, rfl, _, rfl, ?_⟩
    rw [show (!decide (V.non = V.non)) = false by simp]
    refine iteF ?_
    refine ⟨_, rfl, p, dx, sysF ra la ga, rfl, s1 _ _ hp, sysF_levels _ _ _, p, n, rows, Pt, ls, gs, rfl, hA.same s1, ok, fun Fa H2 L hFa s2 hL2 lv => ?_⟩
    have s02 := Same.trans s1 s2
    refine ⟨_, rfl, p, C, dx, _, _, rfl, s02 _ _ hp, c.cl, c.nG, sysF_G _ _ _, ga, rfl, ⟨_, SqL.of (s02 _ _ hGa)⟩, for_list (K := K) (a := ga) (xs := gv) (fun i σ H3 => ∃ o4 o5 o6, σ = [some (.ref p), some (.ref T), some .non, some (.ref Fa), o4, o5, o6, none] ∧ Same H2 H3)
      ⟨none, none, none, rfl, L2.Same.refl _⟩ (fun i σ H3 _ hI => ?_) ?_ ?_⟩
    · obtain ⟨_, _, _, _, s3⟩ := hI
      exact SqL.of (s3 _ _ (s02 _ _ hGa))
    · rintro i x σ H3 hx ⟨o4, o5, o6, rfl, s3⟩
      have s03 := Same.trans s02 s3
      refine ⟨_, rfl, T, rfl, Same.tup s03 hT, fun S hS => ⟨S, rfl, ⟨_, SqL.of upd_same⟩, fun D hD => ?_⟩⟩
      have s4 : Same H3 (upd H3 S (.lst [])) := same_upd hS
      refine lc_fm (xs := []) (fun _ => none) (SqL.of upd_same) hD (Nat.zero_le _) (fun j y acc R N hy => absurd hy (by simp)) ?_
      have s5 : Same (upd H3 S (.lst [])) (upd (upd H3 S (.lst [])) D (.lst [])) := same_upd hD
      have hD5 : upd (upd H3 S (.lst [])) D (.lst []) D = some (.lst []) := upd_same
      show _
      refine ⟨_, rfl, D, rfl, ⟨[], SqL.of hD5⟩, for_list (K := K) (a := D) (xs := []) (fun j σ H5 => σ = [some (.ref p), some (.ref T), some .non, some (.ref Fa), some x, o5, some (.ref D), none] ∧ H5 = upd (upd H3 S (.lst [])) D (.lst []))
        ⟨rfl, rfl⟩ (fun j σ H5 _ hI => by rw [hI.2]; exact SqL.of hD5) (fun j y σ H5 hy => absurd hy (by simp)) ?_⟩
      rintro σ H5 ⟨rfl, rfl⟩
      refine ⟨_, rfl, false, .inl ⟨[], SqL.of hD5, rfl⟩, ?_⟩
      exact iteF ⟨_, _, _, rfl, Same.trans s3 (Same.trans s4 s5)⟩
    · rintro σ H3 ⟨o4, o5, o6, rfl, s3⟩
      refine ⟨_, rfl, (by show 2 ≤ sizeLine; decide), fun t ht => ?_⟩
      have s4 : Same H3 (upd H3 t (.tup [.str "potential", .ref Fa])) := same_upd ht
      have s03 := Same.trans s02 s3
      exact q t Fa _ L (Same.free s03 ht) (Same.free s1 hFa) (Same.trans s03 s4) upd_same (s4 _ _ (s3 _ _ hL2)) lv
def GrpD (D : Addr) (H : Hp) (v : V) (g : List Nat) : Prop := ∃ a, v = .ref a ∧ a ≠ D ∧ NodesAt H a g
def spFree (K : PySem.W.Frag) (C : Addr) : Sp := fun vs H Q _ => ∃ (p T : Addr) (rows : List RowM) (ls : List (List Trip)) (gs : List (List Nat)), vs = [.ref p, .ref T] ∧ SysAt C H p rows ls gs ∧ SqT K H T [] ∧ gs.length ≤ 12 ∧ (∀ g ∈ gs, g.length ≤ 12) ∧
  ∀ (l : Addr) (H' : Hp), H l = none → Same H H' → GroupsAt H' l gs → Q (.ref l) H'
theorem met_free {C : Addr} (G : Bn mg) (c : SysC K C) (D : MetAt K C "free_groups" "System.free_groups" sSystem_free_groups) : C8.Met P w K mg base 1 C "free_groups" (spFree K C) [] := by
  refine D.met scSystem_free_groups (fun _ _ _ _ _ _ us hl => match us, hl with | [_, _], _ => rfl) (fun vs H Q E h => ?_) (fun f cdv A outer s H vs Q E hr h => ?_)
  · obtain ⟨p, T, rows, ls, gs, rfl, _⟩ := h
    rfl
  · obtain ⟨p, T, rows, ls, gs, rfl, hA, hT, lg, lgg, q⟩ := h
    refine ⟨_, (pss_one (ps_ret (pe_lc (own := [("group", 2)]) rfl scSystem_free_groups.nd (piL K (fldK K (pv 0) rfl)) (blkOk_by (N := NSystem_free_groups) (sc := defScope sSystem_free_groups) (by decide +kernel)) (fun _ _ _ _ _ => (pg_name (i := 2) scSystem_free_groups.nd rfl (Or.inl rfl))) (fun _ _ _ _ _ => (pts_one (pt_not (pt_val (pe_callB (cAny K rfl) (by rfl) G.any (by decide +kernel) (pa_cons (pe_lc (own := [("node", 3)]) rfl scSystem_free_groups.nd (piL K (pv 2)) (blkOk_by (by kernel_rfl)) (fun _ _ _ _ _ => (pg_name (i := 3) scSystem_free_groups.nd rfl (Or.inl rfl))) (fun _ _ _ _ _ => pts_nil) (fun _ _ _ _ _ => (pe_cmpR (opIn K) (pv 3) (pv 1) (by rfl)))) pa_nil)))))) (fun _ _ _ _ _ => (pv 2))))), ?_⟩
    obtain ⟨dx, ra, la, ga, hp, hR, hL, gv, hGa, hGG⟩ := id hA
    refine ⟨_, rfl, p, C, dx, _, _, rfl, hp, c.cl, c.nG, sysF_G _ _ _, ga, rfl, ⟨_, SqL.of hGa⟩, fun D hD => ?_⟩
    refine lc_new (ys := gs) id (GrpD D) (SqL.of hGa) hGG hD (Nat.le_of_lt (small_lt (by rw [Paired.length hGG]; omega))) (fun H2 H3 v z e ⟨a, h1, h2, h3⟩ => ⟨a, h1, h2, e _ _ h2 h3⟩) (fun i x g H2 R N hx hg ⟨b, ex, hb⟩ s2 hD2 hy => ?_) (fun H2 acc s2 hD2 hP2 => ?_)
    · subst ex
      obtain ⟨acc, hD2⟩ := hD2
      have hb2 : NodesAt H2 b g := s2 _ _ hb
      have nbD : b ≠ D := ne_of_none hb hD
      refine ⟨rfl, _, rfl, b, rfl, ⟨_, SqL.of hb2⟩, fun D2 hD3 => ?_⟩
      refine lc_fg nI (fun _ => some (V.bl false)) (SqL.of hb2) hD3 (Nat.le_of_lt (small_lt (by have := lgg g (List.mem_of_getElem? hg); omega))) (fun j v acc2 R2 N2 hv hy2 hno => ?_) ?_
      · refine ⟨rfl, _, rfl, _, rfl, T, [], rfl, .inr (Same.tup (Same.trans s2 (same_upd hD3)) hT), rfl, rfl, hy2 _ rfl⟩
      · rw [fm_some2 _ (fun _ => V.bl false) (fun _ => rfl)]
        have e0 : g.map (fun _ => V.bl false) = (List.replicate g.length false).map V.bl := by
          rw [List.map_const', List.map_replicate]
        rw [e0]
        refine ⟨D2, _, rfl, SqL.of upd_same, _, rfl, ?_⟩
        have e1 : (List.replicate g.length false).any id = false := by
          rw [List.any_eq_false]
          intro x hx
          rw [(List.mem_replicate.mp hx).2]
          decide
        rw [e1]
        refine iteT ?_
        have s3 : Same H2 (upd H2 D2 (.lst ((List.replicate g.length false).map V.bl))) := same_upd hD3
        exact ⟨_, rfl, hy (.ref b) _ s3 ⟨b, rfl, nbD, s3 _ _ hb2⟩⟩
    · rw [List.map_id] at hP2
      exact q D H2 hD s2 ⟨acc, hD2, Paired.mapP hP2 fun v g ⟨a, h1, _, h3⟩ => ⟨a, h1, h3⟩⟩
end
end K29
namespace K29
open PySem PySem.Spec PyProof.Rows L2
/-- len(x), x an instance of the class at C that has its own __len__ -/
theorem call_lenOwn {X : Cx} {C : Addr} {sp : Sp} {k j : Nat} (me : C8.Met X.prog X.w X.K X.mg X.base k C "__len__" sp []) (hr : Room j X.A) (hk : k + 1 ≤ j) :
    CallR X (.builtin "len") (fun xs H Q => ∃ p dx fs, xs = [.ref p] ∧ H p = some (.ins C dx fs) ∧ sp [.ref p] H (fun v H' => ∃ n : Int, v = .int n ∧ 0 ≤ n ∧ n < 2 ^ 63 ∧ Q (.int n) H') C8.E0) := by
  intro pins s σ H xs us Q I r h
  obtain ⟨p, dx, fs, rfl, hp, q⟩ := h
  obtain rfl := Vals.ref1 r
  obtain ⟨f, fd, ps, ds, hc, hm, F, b, d⟩ := me.ex
  cases d
  obtain ⟨m, FR⟩ := I.fr
  obtain ⟨mA, O, _⟩ := ins_get I.hok hp
  obtain ⟨od, J, _⟩ := O.look
  refine PySem.W.len_K FR I.ok.mod.kin J hm.at_ hm.fn ?_
  have hl : ([Value.ref p] ++ ([] : List Value)).length = ps.length := by
    have := F.len _ _ _ _ q
    rw [List.append_nil]
    exact this
  have r0 : Vals [V.ref p] [Value.ref p] := Paired.cons (show RelV (V.ref p) (Value.ref p) from rfl) Paired.nil
  refine wpAny_call (codeAny_mono (F.run X.A.in1 X.stack s H ⟨[.ref p], []⟩ [Value.ref p] [V.ref p] _ C8.E0 (Room.in1 (hr.mono hk)) I.env0.in1 (b s [.ref p] I.kIn hl) r0 q) fun r s' hq => ?_)
  cases r with
  | error e => exact (show False from hq).elim
  | ok fl =>
    cases fl with
    | ret u =>
      obtain ⟨v, H', I', rv, n, rfl, h0, h1, q'⟩ := I.after hq
      obtain ⟨t, rfl⟩ := (show ∃ t, u = Value.int n t from rv)
      exact ⟨⟨h0, h1⟩, .int n, H', I'.tok _, ⟨_, rfl⟩, q'⟩
    | next => exact False.elim hq
    | brk => exact False.elim hq
    | cont => exact False.elim hq
end K29
namespace K29
open PySem PySem.Spec PyProof.Rows L2
/-! ### the class Web -/
structure WebC (K : PySem.W.Frag) (C : Addr) : Prop where
  cl : Cls K C
  nS : NoAttr K C "own_size"
  nE : NoAttr K C "own_edges"
  nM : NoAttr K C "own_modulus"
  nF : NoAttr K C "own_forest"
  nL : NoAttr K C "links"
def webF (n : Nat) (ea fa la : Addr) : List (Str × V) := [("own_size", .int n), ("own_edges", .ref ea), ("own_modulus", .int 0), ("own_forest", .ref fa), ("links", .ref la)]
theorem webF_S (n : Nat) (ea fa la : Addr) : (webF n ea fa la).lookup ("own_size" : Str) = some (.int n) := by kernel_rfl
theorem webF_E (n : Nat) (ea fa la : Addr) : (webF n ea fa la).lookup ("own_edges" : Str) = some (.ref ea) := by kernel_rfl
theorem webF_M (n : Nat) (ea fa la : Addr) : (webF n ea fa la).lookup ("own_modulus" : Str) = some (.int 0) := by kernel_rfl
theorem webF_size (n : Nat) (ea fa la : Addr) : (webF n ea fa la).lookup ("size" : Str) = none := by kernel_rfl
theorem webF_modulus (n : Nat) (ea fa la : Addr) : (webF n ea fa la).lookup ("modulus" : Str) = none := by kernel_rfl
theorem webF_edges (n : Nat) (ea fa la : Addr) : (webF n ea fa la).lookup ("edges" : Str) = none := by kernel_rfl
def wf1 (n : Nat) : List (Str × V) := [("own_size", .int n)]
def wf2 (n : Nat) (ea : Addr) : List (Str × V) := [("own_size", .int n), ("own_edges", .ref ea)]
def wf3 (n : Nat) (ea : Addr) : List (Str × V) := [("own_size", .int n), ("own_edges", .ref ea), ("own_modulus", .int 0)]
def wf4 (n : Nat) (ea fa : Addr) : List (Str × V) := [("own_size", .int n), ("own_edges", .ref ea), ("own_modulus", .int 0), ("own_forest", .ref fa)]
theorem wput1 (n : Nat) : putF ("own_size" : Str) (.int n) [] = wf1 n := by kernel_rfl
theorem wput2 (n : Nat) (ea : Addr) : putF ("own_edges" : Str) (.ref ea) (wf1 n) = wf2 n ea := by kernel_rfl
theorem wput3 (n : Nat) (ea : Addr) : putF ("own_modulus" : Str) (.int 0) (wf2 n ea) = wf3 n ea := by kernel_rfl
theorem wput4 (n : Nat) (ea fa : Addr) : putF ("own_forest" : Str) (.ref fa) (wf3 n ea) = wf4 n ea fa := by kernel_rfl
theorem wput5 (n : Nat) (ea fa la : Addr) : putF ("links" : Str) (.ref la) (wf4 n ea fa) = webF n ea fa la := by kernel_rfl
theorem wlookF (n : Nat) (ea fa : Addr) : (wf4 n ea fa).lookup ("own_forest" : Str) = some (.ref fa) := by kernel_rfl
def WebAt (C : Addr) (H : Hp) (p : Addr) (n : Nat) (es : List (Nat × Nat)) : Prop := ∃ dx ea fa la, H p = some (.ins C dx (webF n ea fa la)) ∧ EdgesAt H ea es
theorem WebAt.same {C : Addr} {H H' : Hp} {p : Addr} {n : Nat} {es : List (Nat × Nat)} (h : WebAt C H p n es) (e : Same H H') : WebAt C H' p n es := by
  obtain ⟨dx, ea, fa, la, h1, h2⟩ := h
  exact ⟨dx, ea, fa, la, e _ _ h1, h2.same e⟩
structure WebOk (n : Nat) (es : List (Nat × Nat)) : Prop where
  n1 : 1 ≤ n
  n12 : n ≤ 12
  l18 : es.length ≤ 18
  lt : ∀ e ∈ es, e.1 < n ∧ e.2 < n
/-- the module's numbers -/
structure Nums (mg : Str → Option Value) : Prop where
  nodes : ∃ t, mg "MOST_NODES" = some (.int 30 t)
  edges : ∃ t, mg "MOST_EDGES" = some (.int 60 t)
  mod : ∃ t, mg "MOST_MODULUS" = some (.int 60 t)
section
variable {P : Program} {w : World} {K : PySem.W.Frag} {mg : Str → Option Value} {base : Heap}
theorem gInt {x : Str} {i : Int} (h : ∃ t, mg x = some (.int i t)) : ∃ u, mg x = some u ∧ RelV (.int i) u := by
  obtain ⟨t, e⟩ := h
  exact ⟨_, e, t, rfl⟩
/-- a def whose every parameter is written -/
def spIsEdge : Sp := fun vs H Q _ => ∃ (t : Addr) (n : Nat) (e : Nat × Nat), vs = [.ref t, .int n] ∧ H t = some (.tup [.int e.1, .int e.2]) ∧ e.1 < n ∧ e.2 < n ∧ Q (.bl true) H
theorem cal_isedge (G : Bn mg) (cw : C8.Cal P w K mg base 2 "is_within" spWithin []) (D : DefAt K mg "is_edge" sis_edge) : C8.Cal P w K mg base 3 "is_edge" spIsEdge [] := by
  refine D.cal scis_edge (fun _ _ _ _ _ _ us hl => match us, hl with | [_, _], _ => rfl) (fun vs H Q E h => ?_) (fun f cdv A outer s H vs Q E hr h => ?_)
  · obtain ⟨t, n, e, rfl, _⟩ := h
    rfl
  · obtain ⟨t, n, e, rfl, ht, h1, h2, q⟩ := h
    refine ⟨_, (pss_cons (ps_if (PW.pt (pw_or (pt_not (pt_val (pe_callB (cIsi K) (by rfl) G.isinstance (by decide +kernel) (pa_cons (pv 0) (pa_cons (pe_bltn (v := .ty "tuple") (by rfl) G.tuple (by decide +kernel) rfl) pa_nil))))) (pw_or1 (pt_cmpR op_ne (pe_callB (cLen K) (by rfl) G.len (by decide +kernel) (pa_cons (pv 0) pa_nil)) pe_int (nomark _)))))
  (pss_one (ps_ret pe_bl))
  pss_nil)
  (pss_one (ps_ret (pe_and (C8.pe_c cw hr (by decide) (by rfl) (pa_cons (pe_ix (ixT K) (pv 0) pe_int (fun _ _ => rfl)) (pa_cons pe_int (pa_cons (pe_op op_sub (pv 1) pe_int) pa_nil)))) (pe_one (C8.pe_c cw hr (by decide) (by rfl) (pa_cons (pe_ix (ixT K) (pv 0) pe_int (fun _ _ => rfl)) (pa_cons pe_int (pa_cons (pe_op op_sub (pv 1) pe_int) pa_nil))))))))), ?_⟩
    refine ⟨_, rfl, _, _, _, _, true, rfl, .ty _, .base (.tup ht), kit_ty (by decide +kernel), _, rfl, ?_⟩
    show if (!true) = true then _ else _
    refine iteF ?_
    refine ⟨_, rfl, _, _, rfl, .inr (SqT.of ht), rfl, _, rfl, ?_⟩
    rw [show (!decide (V.int (([V.int e.1, V.int e.2] : List V).length : Int) = V.int 2)) = false by simp]
    refine iteF ?_
    refine ⟨_, rfl, t, _, _, _, rfl, rfl, SqT.of ht, atI_nat (j := 0) rfl, _, rfl, _, _, rfl, rfl, _, _, _, rfl, ?_⟩
    rw [show decide ((0 : Int) ≤ (e.1 : Int) ∧ (e.1 : Int) ≤ (n : Int) - 1) = true by exact decide_eq_true ⟨by omega, by omega⟩]
    refine ⟨_, rfl, iteT ?_⟩
    refine ⟨_, rfl, t, _, _, _, rfl, rfl, SqT.of ht, atI_nat (j := 1) rfl, _, rfl, _, _, rfl, rfl, _, _, _, rfl, ?_⟩
    rw [show decide ((0 : Int) ≤ (e.2 : Int) ∧ (e.2 : Int) ≤ (n : Int) - 1) = true by exact decide_eq_true ⟨by omega, by omega⟩]
    exact q
def spIsMod : Sp := fun vs H Q _ => vs = [.int 0] ∧ Q (.bl true) H
theorem cal_ismod (N : Nums mg) (cw : C8.Cal P w K mg base 2 "is_within" spWithin []) (D : DefAt K mg "is_modulus" sis_modulus) : C8.Cal P w K mg base 3 "is_modulus" spIsMod [] := by
  refine D.cal scis_modulus (fun _ _ _ _ _ _ us hl => match us, hl with | [_], _ => rfl) (fun vs H Q E h => ?_) (fun f cdv A outer s H vs Q E hr h => ?_)
  · obtain ⟨rfl, _⟩ := h
    rfl
  · obtain ⟨rfl, q⟩ := h
    refine ⟨_, (pss_one (ps_ret (pe_and (C8.pe_c cw hr (by decide) (by rfl) (pa_cons (pv 0) (pa_cons pe_int (pa_cons (pe_glob (v := .int 60) (by rfl) N.mod.choose_spec ⟨_, rfl⟩) pa_nil)))) (pe_one (pe_cmpR op_ne (pv 0) pe_int (nomark _)))))), ?_⟩
    refine ⟨_, rfl, _, _, _, rfl, ?_⟩
    rw [show decide ((0 : Int) ≤ 0 ∧ (0 : Int) ≤ 60) = true by decide]
    refine ⟨_, rfl, iteT ⟨_, rfl, rfl, ?_⟩⟩
    exact q
def spChkE : Sp := fun vs H Q _ => ∃ (n : Nat) (a : Addr) (es : List (Nat × Nat)), vs = [.int n, .ref a] ∧ EdgesAt H a es ∧ WebOk n es ∧ ∀ H', Same H H' → Q .non H'
theorem cal_chke (G : Bn mg) (N : Nums mg) (ce : C8.Cal P w K mg base 3 "is_edge" spIsEdge []) (D : DefAt K mg "check_edges" scheck_edges) : C8.Cal P w K mg base 4 "check_edges" spChkE [] := by
  refine D.cal sccheck_edges (fun _ _ _ _ _ _ us hl => match us, hl with | [_, _], _ => rfl) (fun vs H Q E h => ?_) (fun f cdv A outer s H vs Q E hr h => ?_)
  · obtain ⟨n, a, es, rfl, _⟩ := h
    rfl
  · obtain ⟨n, a, es, rfl, ⟨ws, hA, hE⟩, ok, q⟩ := h
    refine ⟨_, (pss_cons (ps_if (pt_not (pt_val (pe_callB (cIsiT K) (by rfl) G.isinstance (by decide +kernel) (pa_cons (pv 1) (pa_cons (pe_tup (pa_cons (pe_bltn (v := .ty "list") (by rfl) G.list (by decide +kernel) rfl) (pa_cons (pe_bltn (v := .ty "tuple") (by rfl) G.tuple (by decide +kernel) rfl) pa_nil))) pa_nil)))))
  (pss_one (ps_never))
  pss_nil)
  (pss_cons (ps_for PassesOwn.never rfl (piL K (pv 1)) (pg_name (i := 2) sccheck_edges.nd rfl (Or.inl rfl))
  (pss_one (ps_if (pt_not (pt_val (C8.pe_c ce hr (by decide) (by rfl) (pa_cons (pv 2) (pa_cons (pv 0) pa_nil)))))
    (pss_one (ps_never))
    pss_nil)))
  (pss_one (ps_if (pt_cmpR op_gt (pe_callB (cLen K) (by rfl) G.len (by decide +kernel) (pa_cons (pv 1) pa_nil)) (pe_glob (v := .int 60) (by rfl) N.edges.choose_spec ⟨_, rfl⟩) (nomark _))
  (pss_one (ps_never))
  pss_nil)))), ?_⟩
    refine ⟨_, rfl, (by show 2 ≤ sizeLine; decide), fun T hT => ?_⟩
    have s1 : Same H (upd H T (.tup [.ty "list", .ty "tuple"])) := same_upd hT
    refine ⟨_, T, _, _, _, true, rfl, upd_same, .cons (.ty _) (.cons (.ty _) .nil), .base (.lst (s1 _ _ hA)), kitAny_cons (b := true) (kit_ty (by decide +kernel)) (fun z => by cases z) (fun _ => rfl), _, rfl, iteF ?_⟩
    generalize upd H T (.tup [.ty "list", .ty "tuple"]) = H1 at s1 ⊢
    refine ⟨_, rfl, a, rfl, ⟨_, SqL.of (s1 _ _ hA)⟩, for_list (K := K) (a := a) (xs := ws) (fun i σ H2 => ∃ o, σ = [some (nI n), some (.ref a), o] ∧ H2 = H1) ⟨none, rfl, rfl⟩ (fun i σ H2 _ hI => ?_) ?_ ?_⟩
    · obtain ⟨_, _, rfl⟩ := hI
      exact SqL.of (s1 _ _ hA)
    · rintro i x σ H2 hx ⟨o, rfl, rfl⟩
      obtain ⟨e, he, t, rfl, ht⟩ := Paired.at' hE hx
      obtain ⟨b1, b2⟩ := ok.lt e (List.mem_of_getElem? he)
      exact ⟨_, rfl, _, rfl, t, n, e, rfl, s1 _ _ ht, b1, b2, _, rfl, iteF ⟨_, rfl, rfl⟩⟩
    · rintro σ H2 ⟨o, rfl, rfl⟩
      have := ok.l18
      have lw : ws.length = es.length := Paired.length hE
      refine ⟨_, rfl, _, _, rfl, .inl (SqL.of (s1 _ _ hA)), _, _, rfl, rfl, _, rfl, ?_⟩
      rw [show decide ((60 : Int) < (ws.length : Int)) = false by exact decide_eq_false (by omega)]
      exact iteF (q _ s1)
end
end K29
namespace K29
open PySem PySem.Spec PyProof.Rows L2
structure WebMakAt (K : PySem.W.Frag) (C : Addr) (mg : Str → Option Value) : Prop where
  ex : ∃ (f : Addr) (fd : FuncData) (ed : V), Mk K C f ∧ FunD K "__init__" "Web.__init__" (defArgs sWeb_init) (defBody sWeb_init) (defScope sWeb_init) [ed] [("modulus", .int 0)] f fd ∧ mg "Web" = some (.ref C)
section
variable {P : Program} {w : World} {K : PySem.W.Frag} {mg : Str → Option Value} {base : Heap}
def spWebInit (C : Addr) : Sp := fun vs H Q _ => ∃ (p dx : Addr) (n : Nat) (a : Addr) (es : List (Nat × Nat)), vs = [.ref p, .int n, .ref a, .int 0] ∧ H p = some (.ins C dx []) ∧ EdgesAt H a es ∧ WebOk n es ∧ ∀ (H' : Hp), SameP p H H' → WebAt C H' p n es → Q .non H'
theorem mak_web {C : Addr} (G : Bn mg) (N : Nums mg) (c : WebC K C) (cw : C8.Cal P w K mg base 2 "is_within" spWithin []) (ce : C8.Cal P w K mg base 4 "check_edges" spChkE []) (cm : C8.Cal P w K mg base 3 "is_modulus" spIsMod []) (cf : C8.Cal P w K mg base 1 "forest_of" spForest []) (cl : C8.Cal P w K mg base 1 "links_of" spLinksOf []) (D : WebMakAt K C mg) :
    C8.Mak P w K mg base 5 "Web" C (spWebInit C) [.int 0] := by
  obtain ⟨f, fd, ed, m, F, hm⟩ := D.ex
  obtain ⟨ds, hd, hb⟩ := F.binds (ps := ["self", "size", "edges", "modulus"]) 3 1 (by simp) rfl (fun T D doc pm an cdv ct us its ks h1 h2 h3 => match us, its, ks, h1, h2, h3 with
    | [_, _, _], [_], [_], _, _, _ => ⟨_, rfl, _, _, _, _, _, _, rfl, rfl, rfl⟩) (by simp)
  refine ⟨f, fd, ["self", "size", "edges", "modulus"], ds, m, F.ok scWeb_init (fun vs H Q E h => ?_) (fun cdv A outer s H vs Q E hr h => ?_), hm, hb, hd⟩
  · obtain ⟨p, dx, n, a, es, rfl, _⟩ := h
    rfl
  · obtain ⟨p, dx, n, a, es, rfl, hp, hE, ok, q⟩ := h
    have n12 := ok.n12
    have n1 := ok.n1
    have l18 := ok.l18
    refine ⟨_, PSs.nox (pss_cons (ps_if (pt_not (pt_val (C8.pe_c cw hr (by decide) (by rfl) (pa_cons (pv 1) (pa_cons pe_int (pa_cons (pe_glob (v := .int 30) (by rfl) N.nodes.choose_spec ⟨_, rfl⟩) pa_nil))))))
  (pss_one (ps_never))
  pss_nil)
  (pss_cons (ps_expr (C8.pe_c ce hr (by decide) (by rfl) (pa_cons (pv 1) (pa_cons (pv 2) pa_nil))))
  (pss_cons (ps_if (pt_not (pt_val (C8.pe_c cm hr (by decide) (by rfl) (pa_cons (pv 3) pa_nil))))
  (pss_one (ps_never))
  pss_nil)
  (pss_cons (ps_fld (pv 0) (pv 1) rfl)
  (pss_cons (ps_fld (pv 0) (pe_callTy call_list_of (by rfl) G.list (by decide +kernel) (pa_cons (pv 2) pa_nil)) rfl)
  (pss_cons (ps_fld (pv 0) (pv 3) rfl)
  (pss_cons (ps_fld (pv 0) (C8.pe_c cf hr (by decide) (by rfl) (pa_cons (pv 1) (pa_cons (pv 2) pa_nil))) rfl)
  (pss_one (ps_fld (pv 0) (C8.pe_c cl hr (by decide) (by rfl) (pa_cons (pv 1) (pa_cons (pv 2) (pa_cons (fldK K (pv 0) rfl) pa_nil)))) rfl))))))))), ?_⟩
    refine ⟨_, rfl, _, _, _, rfl, ?_⟩
    rw [show decide ((1 : Int) ≤ (n : Int) ∧ (n : Int) ≤ 30) = true by exact decide_eq_true ⟨by omega, by omega⟩]
    refine ⟨_, rfl, iteF ?_⟩
    refine ⟨_, rfl, _, rfl, n, a, es, rfl, hE, ok, fun H1 s1 => ?_⟩
    refine ⟨_, rfl, rfl, _, rfl, iteF ?_⟩
    obtain ⟨ws, hA, hP⟩ := hE.same s1
    have hp1 := s1 _ _ hp
    refine ⟨_, rfl, _, rfl, p, C, dx, _, rfl, hp1, c.cl, c.nS, (by show 0 < 1000; decide), ?_⟩
    rw [wput1]
    have nap : a ≠ p := ne_of hA hp1 (by intro z; cases z)
    have nI : ∀ b o, H1 b = some o → (∀ a b c, o ≠ .ins a b c) → b ≠ p := fun b o h z e => by
      rw [e, hp1] at h
      exact z _ _ _ (Option.some.inj h).symm
    have s2 : SameP p H1 (upd H1 p (.ins C dx (wf1 n))) := SameP.upd p H1 _
    have hp2 : upd H1 p (.ins C dx (wf1 n)) p = some (.ins C dx (wf1 n)) := upd_same
    generalize upd H1 p (.ins C dx (wf1 n)) = H2 at s2 hp2 ⊢
    have hA2 := s2 _ _ nap hA
    refine ⟨_, rfl, a, ws, rfl, .inl (SqL.of hA2), fun ea hea => ?_⟩
    have s3 : Same H2 (upd H2 ea (.lst ws)) := same_upd hea
    have he3 : upd H2 ea (.lst ws) ea = some (.lst ws) := upd_same
    generalize upd H2 ea (.lst ws) = H3 at s3 he3 ⊢
    have hp3 := s3 _ _ hp2
    refine ⟨_, rfl, p, C, dx, _, rfl, hp3, c.cl, c.nE, (by show 1 < 1000; decide), ?_⟩
    rw [wput2]
    refine ⟨_, rfl, _, rfl, p, C, dx, _, rfl, upd_same, c.cl, c.nM, (by show 2 < 1000; decide), ?_⟩
    rw [wput3, upd_upd]
    have nep : ea ≠ p := (ne_of_none hp2 hea).symm
    have s4 : SameP p H3 (upd H3 p (.ins C dx (wf3 n ea))) := SameP.upd p H3 _
    have hp4 : upd H3 p (.ins C dx (wf3 n ea)) p = some (.ins C dx (wf3 n ea)) := upd_same
    generalize upd H3 p (.ins C dx (wf3 n ea)) = H4 at s4 hp4 ⊢
    have s14 : SameP p H1 H4 := s2.trans ((SameP.of s3).trans s4)
    have tt14 : Tups H1 H4 := fun b xs h => s14 _ _ (nI _ _ h fun _ _ _ z => by cases z) h
    have hE4 : EdgesAt H4 a es := ⟨ws, s14 _ _ nap hA, Paired.mapP hP fun v x => PairR.mono tt14⟩
    have he4 := s4 _ _ nep he3
    refine ⟨_, rfl, _, rfl, n, a, es, rfl, hE4, n12, l18, ok.lt, fun fo H5 hfo s5 hF5 => ?_⟩
    have hp5 := s5 _ _ hp4
    refine ⟨_, rfl, p, C, dx, _, rfl, hp5, c.cl, c.nF, (by show 3 < 1000; decide), ?_⟩
    rw [wput4]
    have nfp : fo ≠ p := (ne_of_none hp4 hfo).symm
    have s6 : SameP p H5 (upd H5 p (.ins C dx (wf4 n ea fo))) := SameP.upd p H5 _
    have hp6 : upd H5 p (.ins C dx (wf4 n ea fo)) p = some (.ins C dx (wf4 n ea fo)) := upd_same
    generalize upd H5 p (.ins C dx (wf4 n ea fo)) = H6 at s6 hp6 ⊢
    have s46 : SameP p H4 H6 := (SameP.of s5).trans s6
    have s16 : SameP p H1 H6 := s14.trans s46
    have tt16 : Tups H1 H6 := fun b xs h => s16 _ _ (nI _ _ h fun _ _ _ z => by cases z) h
    have hE6 : EdgesAt H6 a es := ⟨ws, s16 _ _ nap hA, Paired.mapP hP fun v x => PairR.mono tt16⟩
    have he6 := s46 _ _ nep he4
    have hF6 := s6 _ _ nfp hF5
    refine ⟨_, rfl, _, rfl, _, rfl, p, C, dx, _, _, rfl, hp6, c.cl, c.nF, wlookF _ _ _, n, a, fo, es, _, rfl, hE6, hF6, n12, ?_, forestN_lt, ok.lt, fun ll H7 hll s7 hL7 => ?_⟩
    · have := (fState_len n es es.length).2
      show (fState n es es.length).2.length ≤ 18
      omega
    have hp7 := s7 _ _ hp6
    refine ⟨_, rfl, p, C, dx, _, rfl, hp7, c.cl, c.nL, (by show 4 < 1000; decide), ?_⟩
    rw [wput5]
    have s8 : SameP p H7 (upd H7 p (.ins C dx (webF n ea fo ll))) := SameP.upd p H7 _
    have s18 : SameP p H1 (upd H7 p (.ins C dx (webF n ea fo ll))) := s16.trans ((SameP.of s7).trans s8)
    have tt18 : Tups H1 (upd H7 p (.ins C dx (webF n ea fo ll))) := fun b xs h => s18 _ _ (nI _ _ h fun _ _ _ z => by cases z) h
    exact q _ ((SameP.of s1).trans s18) ⟨dx, ea, fo, ll, upd_same, ws, s8 _ _ nep (s7 _ _ he6), Paired.mapP hP fun v x => PairR.mono tt18⟩
/-! ### its methods -/
def spWS (C : Addr) : Sp := fun vs H Q _ => ∃ (p : Addr) (n : Nat) (es : List (Nat × Nat)), vs = [.ref p] ∧ WebAt C H p n es ∧ Q (.int n) H
def spWM (C : Addr) : Sp := fun vs H Q _ => ∃ (p : Addr) (n : Nat) (es : List (Nat × Nat)), vs = [.ref p] ∧ WebAt C H p n es ∧ Q (.int 0) H
def spWL (C : Addr) : Sp := fun vs H Q _ => ∃ (p : Addr) (n : Nat) (es : List (Nat × Nat)), vs = [.ref p] ∧ WebAt C H p n es ∧ Q (.int es.length) H
def spWE (C : Addr) : Sp := fun vs H Q _ => ∃ (p : Addr) (n : Nat) (es : List (Nat × Nat)), vs = [.ref p] ∧ WebAt C H p n es ∧ ∀ (l : Addr) (H' : Hp), H l = none → Same H H' → EdgesAt H' l es → Q (.ref l) H'
theorem met_size {C : Addr} (c : WebC K C) (D : MetAt K C "size" "Web.size" sWeb_size) : C8.Met P w K mg base 1 C "size" (spWS C) [] := by
  refine D.met scWeb_size (fun _ _ _ _ _ _ us hl => match us, hl with | [_], _ => rfl) (fun vs H Q E h => ?_) (fun f cdv A outer s H vs Q E hr h => ?_)
  · obtain ⟨p, n, es, rfl, _⟩ := h
    rfl
  · obtain ⟨p, n, es, rfl, ⟨dx, ea, fa, la, hp, _⟩, q⟩ := h
    refine ⟨_, (pss_one (ps_ret (fldK K (pv 0) rfl))), ?_⟩
    exact ⟨_, rfl, p, C, dx, _, _, rfl, hp, c.cl, c.nS, webF_S _ _ _ _, q⟩
theorem met_modulus {C : Addr} (c : WebC K C) (D : MetAt K C "modulus" "Web.modulus" sWeb_modulus) : C8.Met P w K mg base 1 C "modulus" (spWM C) [] := by
  refine D.met scWeb_modulus (fun _ _ _ _ _ _ us hl => match us, hl with | [_], _ => rfl) (fun vs H Q E h => ?_) (fun f cdv A outer s H vs Q E hr h => ?_)
  · obtain ⟨p, n, es, rfl, _⟩ := h
    rfl
  · obtain ⟨p, n, es, rfl, ⟨dx, ea, fa, la, hp, _⟩, q⟩ := h
    refine ⟨_, (pss_one (ps_ret (fldK K (pv 0) rfl))), ?_⟩
    exact ⟨_, rfl, p, C, dx, _, _, rfl, hp, c.cl, c.nM, webF_M _ _ _ _, q⟩
theorem met_edges {C : Addr} (G : Bn mg) (c : WebC K C) (D : MetAt K C "edges" "Web.edges" sWeb_edges) : C8.Met P w K mg base 1 C "edges" (spWE C) [] := by
  refine D.met scWeb_edges (fun _ _ _ _ _ _ us hl => match us, hl with | [_], _ => rfl) (fun vs H Q E h => ?_) (fun f cdv A outer s H vs Q E hr h => ?_)
  · obtain ⟨p, n, es, rfl, _⟩ := h
    rfl
  · obtain ⟨p, n, es, rfl, ⟨dx, ea, fa, la, hp, ws, hA, hP⟩, q⟩ := h
    refine ⟨_, (pss_one (ps_ret (pe_callTy call_list_of (by rfl) G.list (by decide +kernel) (pa_cons (fldK K (pv 0) rfl) pa_nil)))), ?_⟩
    refine ⟨_, rfl, p, C, dx, _, _, rfl, hp, c.cl, c.nE, webF_E _ _ _ _, ea, ws, rfl, .inl (SqL.of hA), fun l hl => ?_⟩
    have s1 : Same H (upd H l (.lst ws)) := same_upd hl
    exact q l _ hl s1 ⟨ws, upd_same, Paired.mapP hP fun v x => PairR.mono (L2.Same.tups s1)⟩
theorem met_wlen {C : Addr} (G : Bn mg) (c : WebC K C) (D : MetAt K C "__len__" "Web.__len__" sWeb_len) : C8.Met P w K mg base 1 C "__len__" (spWL C) [] := by
  refine D.met scWeb_len (fun _ _ _ _ _ _ us hl => match us, hl with | [_], _ => rfl) (fun vs H Q E h => ?_) (fun f cdv A outer s H vs Q E hr h => ?_)
  · obtain ⟨p, n, es, rfl, _⟩ := h
    rfl
  · obtain ⟨p, n, es, rfl, ⟨dx, ea, fa, la, hp, ws, hA, hP⟩, q⟩ := h
    refine ⟨_, (pss_one (ps_ret (pe_callB (cLen K) (by rfl) G.len (by decide +kernel) (pa_cons (fldK K (pv 0) rfl) pa_nil)))), ?_⟩
    refine ⟨_, rfl, p, C, dx, _, _, rfl, hp, c.cl, c.nE, webF_E _ _ _ _, ea, ws, rfl, .inl (SqL.of hA), ?_⟩
    rw [Paired.length hP]
    exact q
end
end K29
namespace K29
open PySem PySem.Spec PyProof.Rows L2
theorem piT (K : PySem.W.Frag) {X : Cx} {tg l : Expr} {tl : TE} (hl : PE X l tl) (h : X.K = K := by rfl) : PI X tg l (iTup K tl) := by
  subst h
  exact pi_tup hl
theorem tyx_tup {K : PySem.W.Frag} {H : Hp} {a : Addr} {xs : List V} (h : SqT K H a xs) : TyX K H (.ref a) (.type "tuple") := by
  rcases h with (h | ⟨o, h⟩) | ⟨o, its, n, h, c, _⟩
  · exact .base (.tup h)
  · exact .fTuple h
  · exact .kTuple h c
/-- a comprehension over an empty tuple -/
theorem lc_t0 {K : PySem.W.Frag} {a : Addr} {g : TG} {tt : TT} {te : TE} {vs : List Nat} {σ : L2.St} {H1 : Hp} {D : Addr} {Qd : Hp → Prop} (hS : SqT K H1 a []) (hD : H1 D = none) (hd : Qd (upd H1 D (.lst []))) :
    ∃ W : Nat → Nat → Hp → Prop, (∃ m, W 0 m (upd H1 D (.lst []))) ∧ ∀ i m H, W i m H →
      ((Itt K a).stop i H ∧ Qd H) ∨ ((Itt K a).go i H ∧ ∃ Nx : Hp → Prop, (∀ H', Nx H' → ∃ m', m' < m ∧ W (i + 1) m' H') ∧ ∀ x H', (Itt K a).yld i H x H' → g x (wipe σ vs) H' fun σ2 H2 => wipe σ2 vs = wipe σ vs ∧ tt σ2 H2 fun b H3 =>
        if b = true then te σ2 H3 fun y H4 => ∃ acc, H4 D = some (.lst acc) ∧ acc.length < sizeLine ∧ Nx (upd H4 D (.lst (acc ++ [y]))) else Nx H3) :=
  lc_tup (xs := []) (fun _ H => H = upd H1 D (.lst [])) rfl (fun i H _ e => by rw [e]; exact Same.tup (same_upd hD) hS) (fun i x H hx _ => absurd hx (by simp)) (fun H e => by rw [e]; exact hd)
section
variable {P : Program} {w : World} {K : PySem.W.Frag} {mg : Str → Option Value} {base : Heap}
def spResidue (C : Addr) : Sp := fun vs H Q _ => ∃ (p : Addr) (n : Nat) (es : List (Nat × Nat)) (a : Int), vs = [.ref p, .int a] ∧ WebAt C H p n es ∧ Q (.int a) H
theorem wf_of {C : Addr} {H : Hp} {p : Addr} {n : Nat} {es : List (Nat × Nat)} (h : WebAt C H p n es) : ∃ dx fs, H p = some (.ins C dx fs) ∧ fs.lookup ("size" : Str) = none ∧ fs.lookup ("modulus" : Str) = none ∧ fs.lookup ("edges" : Str) = none := by
  obtain ⟨dx, ea, fa, la, hp, _⟩ := h
  exact ⟨dx, _, hp, webF_size _ _ _ _, webF_modulus _ _ _ _, webF_edges _ _ _ _⟩
theorem cal_residue {C : Addr} (ci : C8.Cal P w K mg base 1 "is_integer" spIsInt []) (cr : C8.Cal P w K mg base 1 "reduced_number" spReduced []) (mm : C8.Met P w K mg base 1 C "modulus" (spWM C) []) (D : DefAt K mg "residue" sresidue) : C8.Cal P w K mg base 2 "residue" (spResidue C) [] := by
  refine D.cal scresidue (fun _ _ _ _ _ _ us hl => match us, hl with | [_, _], _ => rfl) (fun vs H Q E h => ?_) (fun f cdv A outer s H vs Q E hr h => ?_)
  · obtain ⟨p, n, es, a, rfl, _⟩ := h
    rfl
  · obtain ⟨p, n, es, a, rfl, hW, q⟩ := h
    obtain ⟨dx, fs, hp, _, f2, _⟩ := wf_of hW
    refine ⟨_, (pss_cons (ps_if (pt_not (pt_val (C8.pe_c ci hr (by decide) (by rfl) (pa_cons (pv 1) pa_nil))))
  (pss_one (ps_never))
  pss_nil)
  (pss_one (ps_ret (C8.pe_c cr hr (by decide) (by rfl) (pa_cons (pv 1) (pa_cons (C8.pe_mt0 mm hr (by decide) (pv 0)) pa_nil)))))), ?_⟩
    refine ⟨_, rfl, a, rfl, _, rfl, iteF ?_⟩
    exact ⟨_, rfl, _, rfl, p, dx, fs, rfl, hp, f2, p, n, es, rfl, hW, a, rfl, q⟩
def spSizeOf (C : Addr) : Sp := fun vs H Q _ => ∃ (p : Addr) (n : Nat) (es : List (Nat × Nat)) (a : Int), vs = [.ref p, .int a] ∧ WebAt C H p n es ∧ Q (.int (absI a)) H
theorem cal_sizeof {C : Addr} (G : Bn mg) (cr : C8.Cal P w K mg base 2 "residue" (spResidue C) []) (mm : C8.Met P w K mg base 1 C "modulus" (spWM C) []) (D : DefAt K mg "size_of" ssize_of) : C8.Cal P w K mg base 3 "size_of" (spSizeOf C) [] := by
  refine D.cal scsize_of (fun _ _ _ _ _ _ us hl => match us, hl with | [_, _], _ => rfl) (fun vs H Q E h => ?_) (fun f cdv A outer s H vs Q E hr h => ?_)
  · obtain ⟨p, n, es, a, rfl, _⟩ := h
    rfl
  · obtain ⟨p, n, es, a, rfl, hW, q⟩ := h
    obtain ⟨dx, fs, hp, _, f2, _⟩ := wf_of hW
    refine ⟨_, (pss_cons (ps_set (i := 2) scsize_of.nd rfl (Or.inl rfl) (C8.pe_c cr hr (by decide) (by rfl) (pa_cons (pv 0) (pa_cons (pv 1) pa_nil))))
  (pss_cons (ps_set (i := 3) scsize_of.nd rfl (Or.inl rfl) (C8.pe_mt0 mm hr (by decide) (pv 0)))
  (pss_one (ps_ret (pe_ifExp (pt_cmpR op_gt (pv 3) pe_int (nomark _)) (pe_callB (call_min2 rfl) (by rfl) G.min (by decide +kernel) (pa_cons (pv 2) (pa_cons (pe_op op_sub (pv 3) (pv 2)) pa_nil))) (pe_callB call_abs (by rfl) G.abs (by decide +kernel) (pa_cons (pv 2) pa_nil))))))), ?_⟩
    refine ⟨_, rfl, _, rfl, p, n, es, a, rfl, hW, ?_⟩
    refine ⟨_, rfl, p, dx, fs, rfl, hp, f2, p, n, es, rfl, hW, ?_⟩
    exact ⟨_, rfl, _, _, rfl, rfl, _, rfl, iteF ⟨_, rfl, a, rfl, q⟩⟩
def spIsRes (C : Addr) : Sp := fun vs H Q _ => ∃ (p : Addr) (n : Nat) (es : List (Nat × Nat)) (a : Int), vs = [.ref p, .int a] ∧ WebAt C H p n es ∧ Q (.bl true) H
theorem cal_isres {C : Addr} (ci : C8.Cal P w K mg base 1 "is_integer" spIsInt []) (cw : C8.Cal P w K mg base 2 "is_within" spWithin []) (mm : C8.Met P w K mg base 1 C "modulus" (spWM C) []) (D : DefAt K mg "is_residue" sis_residue) : C8.Cal P w K mg base 3 "is_residue" (spIsRes C) [] := by
  refine D.cal scis_residue (fun _ _ _ _ _ _ us hl => match us, hl with | [_, _], _ => rfl) (fun vs H Q E h => ?_) (fun f cdv A outer s H vs Q E hr h => ?_)
  · obtain ⟨p, n, es, a, rfl, _⟩ := h
    rfl
  · obtain ⟨p, n, es, a, rfl, hW, q⟩ := h
    obtain ⟨dx, fs, hp, _, f2, _⟩ := wf_of hW
    refine ⟨_, (pss_cons (ps_if (pt_cmpR op_eq (C8.pe_mt0 mm hr (by decide) (pv 0)) pe_int (nomark _))
  (pss_one (ps_ret (C8.pe_c ci hr (by decide) (by rfl) (pa_cons (pv 1) pa_nil))))
  pss_nil)
  (pss_one ps_never)), ?_⟩
    refine ⟨_, rfl, p, dx, fs, rfl, hp, f2, p, n, es, rfl, hW, rfl, _, rfl, ?_⟩
    rw [show decide (V.int 0 = V.int 0) = true by simp]
    exact iteT ⟨_, rfl, a, rfl, q⟩
def spAreRes (C : Addr) : Sp := fun vs H Q _ => ∃ (p : Addr) (n : Nat) (es : List (Nat × Nat)) (a : Addr) (L : List Int), vs = [.ref p, .ref a, .int L.length] ∧ WebAt C H p n es ∧ IntsAt H a L ∧ L.length ≤ 18 ∧ ∀ H', Same H H' → Q (.bl true) H'
theorem cal_areres {C : Addr} (G : Bn mg) (ci : C8.Cal P w K mg base 3 "is_residue" (spIsRes C) []) (D : DefAt K mg "are_residues" sare_residues) : C8.Cal P w K mg base 4 "are_residues" (spAreRes C) [] := by
  refine D.cal scare_residues (fun _ _ _ _ _ _ us hl => match us, hl with | [_, _, _], _ => rfl) (fun vs H Q E h => ?_) (fun f cdv A outer s H vs Q E hr h => ?_)
  · obtain ⟨p, n, es, a, L, rfl, _⟩ := h
    rfl
  · obtain ⟨p, n, es, a, L, rfl, hW, hA, lL, q⟩ := h
    refine ⟨_, (pss_one (ps_ret (pe_and (pe_callB (cIsi K) (by rfl) G.isinstance (by decide +kernel) (pa_cons (pv 1) (pa_cons (pe_bltn (v := .ty "list") (by rfl) G.list (by decide +kernel) rfl) pa_nil))) (pe_and (pe_cmpR op_eq (pe_callB (cLen K) (by rfl) G.len (by decide +kernel) (pa_cons (pv 1) pa_nil)) (pv 2) (nomark _)) (pe_one (pe_callB (cAll K rfl) (by rfl) G.all (by decide +kernel) (pa_cons (pe_lc (own := [("one", 3)]) rfl scare_residues.nd (piL K (pv 1)) (blkOk_by (N := Nare_residues) (sc := defScope sare_residues) (by decide +kernel)) (fun _ _ _ _ _ => (pg_name (i := 3) scare_residues.nd rfl (Or.inl rfl))) (fun _ _ _ _ _ => pts_nil) (fun _ _ _ _ _ => (C8.pe_c ci hr (by decide) (by rfl) (pa_cons (pv 0) (pa_cons (pv 3) pa_nil))))) pa_nil))))))), ?_⟩
    refine ⟨_, rfl, _, _, _, _, true, rfl, .ty _, .base (.lst hA), kit_ty (by decide +kernel), _, rfl, iteT ?_⟩
    refine ⟨_, rfl, _, _, rfl, .inl (SqL.of hA), _, rfl, rfl, _, rfl, ?_⟩
    rw [List.length_map, show decide (V.int (L.length : Int) = V.int (L.length : Int)) = true by simp]
    refine iteT ⟨_, rfl, a, rfl, ⟨_, SqL.of hA⟩, fun D hD => ?_⟩
    refine lc_fg V.int (fun _ => some (V.bl true)) (SqL.of hA) hD (Nat.le_of_lt (small_lt (by omega))) (fun j v acc R N hv hy hno => ?_) ?_
    · exact ⟨rfl, _, rfl, _, rfl, p, n, es, v, rfl, hW.same (same_upd hD), hy _ rfl⟩
    · rw [fm_some2 _ (fun _ => V.bl true) (fun _ => rfl)]
      have e0 : L.map (fun _ => V.bl true) = (List.replicate L.length true).map V.bl := by rw [List.map_const', List.map_replicate]
      rw [e0]
      refine ⟨D, _, rfl, SqL.of upd_same, ?_⟩
      have e1 : (List.replicate L.length true).all id = true := by
        rw [List.all_eq_true]
        intro x hx
        rw [(List.mem_replicate.mp hx).2]
        rfl
      rw [e1]
      exact q _ (same_upd hD)
def spIsG (C : Addr) : Sp := fun vs H Q _ => ∃ (p : Addr) (n : Nat) (es : List (Nat × Nat)) (a : Addr) (L : List Int), vs = [.ref p, .ref a] ∧ WebAt C H p n es ∧ WebOk n es ∧ IntsAt H a L ∧ L.length = es.length ∧ ∀ H', Same H H' → Q (.bl true) H'
theorem cal_isgains {C : Addr} (G : Bn mg) (ca : C8.Cal P w K mg base 4 "are_residues" (spAreRes C) []) (ml : C8.Met P w K mg base 1 C "__len__" (spWL C) []) (D : DefAt K mg "is_gains" sis_gains) : C8.Cal P w K mg base 5 "is_gains" (spIsG C) [] := by
  refine D.cal scis_gains (fun _ _ _ _ _ _ us hl => match us, hl with | [_, _], _ => rfl) (fun vs H Q E h => ?_) (fun f cdv A outer s H vs Q E hr h => ?_)
  · obtain ⟨p, n, es, a, L, rfl, _⟩ := h
    rfl
  · obtain ⟨p, n, es, a, L, rfl, hW, ok, hA, lL, q⟩ := h
    have l18 := ok.l18
    obtain ⟨dx, fs, hp, _⟩ := wf_of hW
    refine ⟨_, (pss_one (ps_ret (C8.pe_c ca hr (by decide) (by rfl) (pa_cons (pv 0) (pa_cons (pv 1) (pa_cons (pe_callB (call_lenOwn ml hr (by decide)) (by rfl) G.len (by decide +kernel) (pa_cons (pv 0) pa_nil)) pa_nil)))))), ?_⟩
    refine ⟨_, rfl, _, rfl, _, rfl, p, dx, fs, rfl, hp, p, n, es, rfl, hW, _, rfl, by omega, by omega, ?_⟩
    exact ⟨p, n, es, a, L, (by rw [lL] <;> rfl), hW, hA, by omega, q⟩
def spIsP (C : Addr) : Sp := fun vs H Q _ => ∃ (p : Addr) (n : Nat) (es : List (Nat × Nat)) (a : Addr) (L : List Int), vs = [.ref p, .ref a] ∧ WebAt C H p n es ∧ WebOk n es ∧ IntsAt H a L ∧ L.length = n ∧ ∀ H', Same H H' → Q (.bl true) H'
theorem cal_ispot {C : Addr} (ca : C8.Cal P w K mg base 4 "are_residues" (spAreRes C) []) (ms : C8.Met P w K mg base 1 C "size" (spWS C) []) (D : DefAt K mg "is_potential" sis_potential) : C8.Cal P w K mg base 5 "is_potential" (spIsP C) [] := by
  refine D.cal scis_potential (fun _ _ _ _ _ _ us hl => match us, hl with | [_, _], _ => rfl) (fun vs H Q E h => ?_) (fun f cdv A outer s H vs Q E hr h => ?_)
  · obtain ⟨p, n, es, a, L, rfl, _⟩ := h
    rfl
  · obtain ⟨p, n, es, a, L, rfl, hW, ok, hA, lL, q⟩ := h
    have n12 := ok.n12
    obtain ⟨dx, fs, hp, f1, _⟩ := wf_of hW
    refine ⟨_, (pss_one (ps_ret (C8.pe_c ca hr (by decide) (by rfl) (pa_cons (pv 0) (pa_cons (pv 1) (pa_cons (C8.pe_mt0 ms hr (by decide) (pv 0)) pa_nil)))))), ?_⟩
    refine ⟨_, rfl, _, rfl, _, rfl, p, dx, fs, rfl, hp, f1, p, n, es, rfl, hW, ?_⟩
    exact ⟨p, n, es, a, L, (by rw [lL] <;> rfl), hW, hA, by omega, q⟩
def spChkG (C : Addr) : Sp := fun vs H Q _ => ∃ (p : Addr) (n : Nat) (es : List (Nat × Nat)) (a : Addr) (L : List Int), vs = [.ref p, .ref a] ∧ WebAt C H p n es ∧ WebOk n es ∧ IntsAt H a L ∧ L.length = es.length ∧ ∀ H', Same H H' → Q .non H'
theorem cal_chkg {C : Addr} (cg : C8.Cal P w K mg base 5 "is_gains" (spIsG C) []) (D : DefAt K mg "check_gains" scheck_gains) : C8.Cal P w K mg base 6 "check_gains" (spChkG C) [] := by
  refine D.cal sccheck_gains (fun _ _ _ _ _ _ us hl => match us, hl with | [_, _], _ => rfl) (fun vs H Q E h => ?_) (fun f cdv A outer s H vs Q E hr h => ?_)
  · obtain ⟨p, n, es, a, L, rfl, _⟩ := h
    rfl
  · obtain ⟨p, n, es, a, L, rfl, hW, ok, hA, lL, q⟩ := h
    refine ⟨_, (pss_one (ps_if (pt_not (pt_val (C8.pe_c cg hr (by decide) (by rfl) (pa_cons (pv 0) (pa_cons (pv 1) pa_nil)))))
  (pss_one (ps_never))
  pss_nil)), ?_⟩
    exact ⟨_, rfl, _, rfl, p, n, es, a, L, rfl, hW, ok, hA, lL, fun H' s' => ⟨_, rfl, iteF (q H' s')⟩⟩
def spChkP (C : Addr) : Sp := fun vs H Q _ => ∃ (p : Addr) (n : Nat) (es : List (Nat × Nat)) (a : Addr) (L : List Int), vs = [.ref p, .ref a] ∧ WebAt C H p n es ∧ WebOk n es ∧ IntsAt H a L ∧ L.length = n ∧ ∀ H', Same H H' → Q .non H'
theorem cal_chkp {C : Addr} (cg : C8.Cal P w K mg base 5 "is_potential" (spIsP C) []) (D : DefAt K mg "check_potential" scheck_potential) : C8.Cal P w K mg base 6 "check_potential" (spChkP C) [] := by
  refine D.cal sccheck_potential (fun _ _ _ _ _ _ us hl => match us, hl with | [_, _], _ => rfl) (fun vs H Q E h => ?_) (fun f cdv A outer s H vs Q E hr h => ?_)
  · obtain ⟨p, n, es, a, L, rfl, _⟩ := h
    rfl
  · obtain ⟨p, n, es, a, L, rfl, hW, ok, hA, lL, q⟩ := h
    refine ⟨_, (pss_one (ps_if (pt_not (pt_val (C8.pe_c cg hr (by decide) (by rfl) (pa_cons (pv 0) (pa_cons (pv 1) pa_nil)))))
  (pss_one (ps_never))
  pss_nil)), ?_⟩
    exact ⟨_, rfl, _, rfl, p, n, es, a, L, rfl, hW, ok, hA, lL, fun H' s' => ⟨_, rfl, iteF (q H' s')⟩⟩
def spChkF (K : PySem.W.Frag) (C : Addr) : Sp := fun vs H Q _ => ∃ (p T : Addr) (n : Nat) (es : List (Nat × Nat)), vs = [.ref p, .ref T] ∧ WebAt C H p n es ∧ SqT K H T [] ∧ ∀ H', Same H H' → Q .non H'
theorem cal_chkf {C : Addr} (G : Bn mg) (cw : C8.Cal P w K mg base 2 "is_within" spWithin []) (ms : C8.Met P w K mg base 1 C "size" (spWS C) []) (D : DefAt K mg "check_fixed" scheck_fixed) : C8.Cal P w K mg base 3 "check_fixed" (spChkF K C) [] := by
  refine D.cal sccheck_fixed (fun _ _ _ _ _ _ us hl => match us, hl with | [_, _], _ => rfl) (fun vs H Q E h => ?_) (fun f cdv A outer s H vs Q E hr h => ?_)
  · obtain ⟨p, T, n, es, rfl, _⟩ := h
    rfl
  · obtain ⟨p, T, n, es, rfl, hW, hT, q⟩ := h
    refine ⟨_, (pss_cons (ps_set (i := 2) sccheck_fixed.nd rfl (Or.inl rfl) (pe_and (pe_callB (cIsiT K) (by rfl) G.isinstance (by decide +kernel) (pa_cons (pv 1) (pa_cons (pe_tup (pa_cons (pe_bltn (v := .ty "list") (by rfl) G.list (by decide +kernel) rfl) (pa_cons (pe_bltn (v := .ty "tuple") (by rfl) G.tuple (by decide +kernel) rfl) pa_nil))) pa_nil))) (pe_one (pe_callB (cAll K rfl) (by rfl) G.all (by decide +kernel) (pa_cons (pe_lc (own := [("node", 3)]) rfl sccheck_fixed.nd (piT K (pv 1)) (blkOk_by (N := Ncheck_fixed) (sc := defScope scheck_fixed) (by decide +kernel)) (fun _ _ _ _ _ => (pg_name (i := 3) sccheck_fixed.nd rfl (Or.inl rfl))) (fun _ _ _ _ _ => pts_nil) (fun _ _ _ _ _ => (C8.pe_c cw hr (by decide) (by rfl) (pa_cons (pv 3) (pa_cons pe_int (pa_cons (pe_op op_sub (C8.pe_mt0 ms hr (by decide) (pv 0)) pe_int) pa_nil)))))) pa_nil)))))
  (pss_one (ps_if (PW.pt (pw_or (pt_not (pt_truth (pv 2) (by intro _; rfl))) (pw_or1 (pt_cmpR op_ne (pe_callB (cLen K) (by rfl) G.len (by decide +kernel) (pa_cons (pv 1) pa_nil)) (pe_lenSet rfl (by rfl) G.len (by rfl) G.set (pv 1)) (nomark _)))))
  (pss_one (ps_never))
  pss_nil))), ?_⟩
    refine ⟨_, rfl, (by show 2 ≤ sizeLine; decide), fun U hU => ?_⟩
    have s1 : Same H (upd H U (.tup [.ty "list", .ty "tuple"])) := same_upd hU
    refine ⟨_, U, _, _, _, true, rfl, upd_same, .cons (.ty _) (.cons (.ty _) .nil), tyx_tup (Same.tup s1 hT), kitAny_cons (b := false) (kit_ty (by decide +kernel)) (fun _ => kitAny_cons (b := true) (kit_ty (by decide +kernel)) (fun z => by cases z) (fun _ => rfl)) (fun z => by cases z), _, rfl, iteT ?_⟩
    generalize upd H U (.tup [.ty "list", .ty "tuple"]) = H1 at s1 ⊢
    have hT1 := Same.tup s1 hT
    refine ⟨_, rfl, T, rfl, ⟨_, hT1⟩, fun D hD => ?_⟩
    refine lc_t0 hT1 hD ?_
    have s2 : Same H1 (upd H1 D (.lst [])) := same_upd hD
    refine ⟨D, [], rfl, SqL.of upd_same, ?_⟩
    have hT2 := Same.tup s2 hT1
    refine ⟨_, rfl, true, rfl, ?_⟩
    show if (!true) = true then _ else _
    refine iteF ?_
    refine ⟨_, rfl, _, _, rfl, .inr hT2, _, rfl, T, [], rfl, .inr hT2, Nat.zero_le _, rfl, _, rfl, ?_⟩
    rw [show (!decide (V.int (([] : List V).length : Int) = V.int (([] : List Str).length : Int))) = false by simp]
    exact iteF (q _ (Same.trans s1 s2))
end
end K29
namespace K29
open PySem PySem.Spec PyProof.Rows L2
/-- the gains, switched by a potential -/
def swN (L : List Int) (es : List (Nat × Nat)) (Pt : List Int) : List Int := (List.range es.length).map fun i => L.getD i 0 + Pt.getD (edN es i).1 0 - Pt.getD (edN es i).2 0
theorem swN_len (L : List Int) (es : List (Nat × Nat)) (Pt : List Int) : (swN L es Pt).length = es.length := by simp [swN]
theorem swN_at {L : List Int} {es : List (Nat × Nat)} {Pt : List Int} {i : Nat} (h : i < es.length) : (swN L es Pt).getD i 0 = L.getD i 0 + Pt.getD (edN es i).1 0 - Pt.getD (edN es i).2 0 := by
  unfold swN
  simp [h]
theorem eqv_ints : ∀ ns : List Int, PyData.eqv (.list (ns.map PyData.int)) (.list (ns.map PyData.int)) = true := fun ns => by
  show PyData.eqvAll _ _ = true
  induction ns with
  | nil => rfl
  | cons x r ih =>
    rw [List.map_cons]
    show (PyData.eqv (.int x) (.int x) && PyData.eqvAll _ _) = true
    rw [ih]
    have : PyData.eqv (.int x) (.int x) = true := by simp [PyData.eqv]
    rw [this]
    rfl
theorem dpAll_ints {K : PySem.W.Frag} {H : Hp} : ∀ ns : List Int, DpAll K H (ns.map V.int) (ns.map PyData.int)
  | [] => .nil
  | x :: r => .cons (.int x) (dpAll_ints r)
theorem dp_ints {K : PySem.W.Frag} {H : Hp} {a : Addr} {ns : List Int} (h : IntsAt H a ns) : Dp K H (.ref a) (.list (ns.map PyData.int)) := .lst (SqL.of h) (dpAll_ints ns)
section
variable {P : Program} {w : World} {K : PySem.W.Frag} {mg : Str → Option Value} {base : Heap}
def spSwitched (C : Addr) : Sp := fun vs H Q _ => ∃ (p : Addr) (n : Nat) (es : List (Nat × Nat)) (a b : Addr) (L Pt : List Int), vs = [.ref p, .ref a, .ref b] ∧ WebAt C H p n es ∧ WebOk n es ∧ IntsAt H a L ∧ L.length = es.length ∧ IntsAt H b Pt ∧ Pt.length = n ∧
  ∀ (l : Addr) (H' : Hp), H l = none → Same H H' → IntsAt H' l (swN L es Pt) → Q (.ref l) H'
theorem cal_switched {C : Addr} (G : Bn mg) (cg : C8.Cal P w K mg base 6 "check_gains" (spChkG C) []) (cp : C8.Cal P w K mg base 6 "check_potential" (spChkP C) []) (cr : C8.Cal P w K mg base 2 "residue" (spResidue C) []) (me : C8.Met P w K mg base 1 C "edges" (spWE C) []) (D : DefAt K mg "switched" sswitched) :
    C8.Cal P w K mg base 7 "switched" (spSwitched C) [] := by
  refine D.cal scswitched (fun _ _ _ _ _ _ us hl => match us, hl with | [_, _, _], _ => rfl) (fun vs H Q E h => ?_) (fun f cdv A outer s H vs Q E hr h => ?_)
  · obtain ⟨p, n, es, a, b, L, Pt, rfl, _⟩ := h
    rfl
  · obtain ⟨p, n, es, a, b, L, Pt, rfl, hW, ok, hA, lL, hB, lP, q⟩ := h
    obtain ⟨dx, fs, hp, _, _, f3⟩ := wf_of hW
    have l18 := ok.l18
    refine ⟨_, (pss_cons (ps_expr (C8.pe_c cg hr (by decide) (by rfl) (pa_cons (pv 0) (pa_cons (pv 1) pa_nil))))
  (pss_cons (ps_expr (C8.pe_c cp hr (by decide) (by rfl) (pa_cons (pv 0) (pa_cons (pv 2) pa_nil))))
  (pss_cons (ps_set (i := 3) scswitched.nd rfl (Or.inl rfl) (pe_lst pa_nil))
  (pss_cons (ps_for PassesOwn.never rfl (pi_zip (by rfl) G.zip (pa_cons (pv 1) (pa_cons (C8.pe_mt0 me hr (by decide) (pv 0)) pa_nil))) (pgT K rfl (pgs_cons (pg_name (i := 4) scswitched.nd rfl (Or.inl rfl)) (pgs_cons (pgT K rfl (pgs_cons (pg_name (i := 5) scswitched.nd rfl (Or.inl rfl)) (pgs_cons (pg_name (i := 6) scswitched.nd rfl (Or.inl rfl)) pgs_nil))) pgs_nil)))
  (pss_one (ps_expr (pe_bm PySem.F.plainAttrs_list PySem.F.slot_list_append PySem.F.type_list_append mt_append (pv 3) (pa_cons (C8.pe_c cr hr (by decide) (by rfl) (pa_cons (pv 0) (pa_cons (pe_op op_sub (pe_op op_add (pv 4) (pe_ix (ixL K) (pv 2) (pv 5) (fun _ _ => rfl))) (pe_ix (ixL K) (pv 2) (pv 6) (fun _ _ => rfl))) pa_nil))) pa_nil)))))
  (pss_one (ps_ret (pv 3))))))), ?_⟩
    refine ⟨_, rfl, _, rfl, p, n, es, a, L, rfl, hW, ok, hA, lL, fun H1 s1 => ?_⟩
    refine ⟨_, rfl, _, rfl, p, n, es, b, Pt, rfl, hW.same s1, ok, s1 _ _ hB, lP, fun H2 s2 => ?_⟩
    have s02 := Same.trans s1 s2
    refine ⟨Nat.zero_le _, fun F hF => ?_⟩
    have s3 : Same H2 (upd H2 F (.lst [])) := same_upd hF
    have hF3 : upd H2 F (.lst []) F = some (.lst []) := upd_same
    generalize upd H2 F (.lst []) = H3 at s3 hF3 ⊢
    have s03 := Same.trans s02 s3
    have fF : H F = none := Same.free s02 hF
    refine ⟨_, rfl, _, rfl, p, dx, fs, rfl, s03 _ _ hp, f3, p, n, es, rfl, hW.same s03, fun ea H4 hea s4 hE4 => ?_⟩
    have s04 := Same.trans s03 s4
    obtain ⟨ev, hev, hEP⟩ := hE4
    have hF4 := s4 _ _ hF3
    have lev : ev.length = es.length := Paired.length hEP
    have neF : ea ≠ F := (ne_of_none hF3 hea).symm
    refine ⟨a, ea, L.map V.int, ev, rfl, SqL.of (s04 _ _ hA), SqL.of hev, RZ.for_zipL (K := K) (a := a) (b := ea) (xs := L.map V.int) (ys := ev) (by rw [List.length_map, lev, lL]) (fun i σ H5 => ∃ o4 o5 o6, σ = [some (.ref p), some (.ref a), some (.ref b), some (.ref F), o4, o5, o6] ∧ Same H H5 ∧ SameP F H4 H5 ∧ IntsAt H5 F ((swN L es Pt).take i))
      ⟨none, none, none, rfl, s04, SameP.refl _ _, by rw [List.take_zero]; exact hF4⟩ (fun i σ H5 hI => ?_) ?_ ?_⟩
    · obtain ⟨_, _, _, _, s5, s45, _⟩ := hI
      exact ⟨SqL.of (s5 _ _ hA), SqL.of (s45 _ _ neF hev)⟩
    · rintro i x y T σ H5 hx hy ⟨o4, o5, o6, rfl, s5, s45, hF5⟩ hT
      obtain ⟨g, hg, rfl⟩ := map_int_get hx
      obtain ⟨e, he, t, rfl, ht⟩ := Paired.at' hEP hy
      obtain ⟨b1, b2⟩ := ok.lt e (List.mem_of_getElem? he)
      have hi : i < es.length := (List.getElem?_eq_some_iff.mp he).1
      have ee : edN es i = e := by
        have := edN_at hi
        rw [he] at this
        exact (Option.some.inj this).symm
      have eg : L.getD i 0 = g := by
        have := getD_at (ns := L) (i := i) (by omega)
        rw [hg] at this
        exact (Option.some.inj this).symm
      have sT : Same H5 (upd H5 T (.tup [.int g, .ref t])) := same_upd hT
      have hT6 : upd H5 T (.tup [.int g, .ref t]) T = some (.tup [.int g, .ref t]) := upd_same
      generalize upd H5 T (.tup [.int g, .ref t]) = H6 at sT hT6 ⊢
      have s6 := Same.trans s5 sT
      have ntF : t ≠ F := ne_of ht hF4 (by intro z; cases z)
      have ht6 := sT _ _ (s45 _ _ ntF ht)
      refine ⟨T, _, rfl, SqT.of hT6, rfl, _, _, rfl, _, _, rfl, ⟨t, _, rfl, SqT.of ht6, rfl, _, _, rfl, _, _, rfl, rfl, rfl, ?_⟩⟩
      have hF6 := sT _ _ hF5
      have hB6 : IntsAt H6 b Pt := s6 _ _ hB
      refine ⟨_, rfl, .inl ⟨rfl, _, SqL.of hF6⟩, ?_⟩
      refine ⟨_, rfl, _, rfl, _, rfl, _, rfl, b, _, _, _, rfl, rfl, SqL.of hB6, atI_int (getD_at (i := e.1) (by omega)), _, _, rfl, rfl, _, rfl, _, rfl, b, _, _, _, rfl, rfl, SqL.of hB6, atI_int (getD_at (i := e.2) (by omega)), _, _, rfl, rfl, ?_⟩
      refine ⟨p, n, es, _, rfl, hW.same s6, ?_⟩
      refine ⟨F, _, _, rfl, rfl, hF6, small_lt (by rw [List.length_map, List.length_take]; omega), ?_⟩
      refine ⟨_, _, _, rfl, fun c o h => ?_, s45.trans ((SameP.of sT).trans (SameP.upd F H6 _)), ?_⟩
      · rw [upd_ne (ne_of_none h fF)]
        exact s6 _ _ h
      · show upd H6 F _ F = _
        rw [upd_same, List.take_add_one, getD_at (ns := swN L es Pt) (i := i) (by rw [swN_len]; exact hi), swN_at hi, ee, eg, List.map_append] <;> rfl
    · rintro σ H5 ⟨o4, o5, o6, rfl, s5, _, hF5⟩
      rw [List.length_map, lL, ← swN_len L es Pt, List.take_length] at hF5
      exact ⟨_, rfl, q F H5 fF s5 hF5⟩
end
end K29
namespace K29
open PySem PySem.Spec PyProof.Rows L2
def rowsN (es : List (Nat × Nat)) (L M : List Int) : List RowM := (List.range es.length).map fun i => ((edN es i).1, (edN es i).2, M.getD i 0 - L.getD i 0)
theorem rowsN_len (es : List (Nat × Nat)) (L M : List Int) : (rowsN es L M).length = es.length := by simp [rowsN]
theorem rowsN_es (es : List (Nat × Nat)) (L M : List Int) : esOf (rowsN es L M) = es := by
  unfold esOf rowsN
  rw [List.map_map]
  refine List.ext_getElem (by simp) fun i h1 h2 => ?_
  simp [edN, h2]
/-- a fresh row, not at D -/
def RowN (D : Addr) (H : Hp) (v : V) (r : RowM) : Prop := ∃ t, v = .ref t ∧ t ≠ D ∧ H t = some (.tup [nI r.1, nI r.2.1, .int r.2.2])
theorem RowN.rows {D : Addr} {H : Hp} {vs : List V} {rs : List RowM} (h : Paired (RowN D H) vs rs) : Paired (RowR H) vs rs := Paired.mapP h fun v x ⟨t, a, _, b⟩ => ⟨t, a, b⟩
theorem nodes_paired (g : List Nat) : Paired (fun x v => x = nI v) (g.map nI) g := Paired.of_map nI (fun _ => rfl) g
section
variable {P : Program} {w : World} {K : PySem.W.Frag} {mg : Str → Option Value} {base : Heap}
def spDiff (C : Addr) : Sp := fun vs H Q _ => ∃ (p : Addr) (n : Nat) (es : List (Nat × Nat)) (a b na : Addr) (L M : List Int), vs = [.ref p, .ref a, .ref b, .ref na] ∧ WebAt C H p n es ∧ WebOk n es ∧ IntsAt H a L ∧ L.length = es.length ∧ IntsAt H b M ∧ M.length = es.length ∧ NodesAt H na (List.range es.length) ∧
  ∀ (l : Addr) (H' : Hp), H l = none → Same H H' → RowsAt H' l (rowsN es L M) → Q (.ref l) H'
theorem cal_diff {C : Addr} (me : C8.Met P w K mg base 1 C "edges" (spWE C) []) (D : DefAt K mg "difference_rows" sdifference_rows) : C8.Cal P w K mg base 2 "difference_rows" (spDiff C) [] := by
  refine D.cal scdifference_rows (fun _ _ _ _ _ _ us hl => match us, hl with | [_, _, _, _], _ => rfl) (fun vs H Q E h => ?_) (fun f cdv A outer s H vs Q E hr h => ?_)
  · obtain ⟨p, n, es, a, b, na, L, M, rfl, _⟩ := h
    rfl
  · obtain ⟨p, n, es, a, b, na, L, M, rfl, hW, ok, hA, lL, hB, lM, hN, q⟩ := h
    obtain ⟨dx, fs, hp, _, _, f3⟩ := wf_of hW
    have l18 := ok.l18
    refine ⟨_, (pss_cons (ps_set (i := 4) scdifference_rows.nd rfl (Or.inr rfl) (C8.pe_mt0 me hr (by decide) (pv 0)))
  (pss_one (ps_ret (pe_lc (own := [("number", 5)]) rfl scdifference_rows.nd (piL K (pv 3)) (blkOk_by (N := Ndifference_rows) (sc := defScope sdifference_rows) (by decide +kernel)) (fun _ _ _ _ _ => (pg_name (i := 5) scdifference_rows.nd rfl (Or.inl rfl))) (fun _ _ _ _ _ => pts_nil) (fun _ _ _ _ _ => (pe_op (catT K) (pe_ix (ixL K) (pv 4) (pv 5) (fun _ _ => rfl)) (pe_tup (pa_cons (pe_op op_sub (pe_ix (ixL K) (pv 2) (pv 5) (fun _ _ => rfl)) (pe_ix (ixL K) (pv 1) (pv 5) (fun _ _ => rfl))) pa_nil)))))))), ?_⟩
    refine ⟨_, rfl, p, dx, fs, rfl, hp, f3, p, n, es, rfl, hW, fun ea H1 hea s1 hE1 => ?_⟩
    obtain ⟨ev, hev, hEP⟩ := hE1
    refine ⟨_, rfl, na, rfl, ⟨_, SqL.of (s1 _ _ hN)⟩, fun Dd hD => ?_⟩
    refine lc_new (ys := List.range es.length) (fun i => ((edN es i).1, (edN es i).2, M.getD i 0 - L.getD i 0)) (RowN Dd) (SqL.of (s1 _ _ hN)) (nodes_paired _) hD (Nat.le_of_lt (small_lt (by rw [List.length_map, List.length_range]; omega))) (fun H2 H3 v z e ⟨t, h1, h2, h3⟩ => ⟨t, h1, h2, e _ _ h2 h3⟩) (fun i x j H2 R N hx hj ej s2 hD2 hy => ?_) (fun H2 acc s2 hD2 hP2 => ?_)
    · subst ej
      obtain ⟨acc, hD2⟩ := hD2
      have hjl : j < es.length := List.mem_range.mp (List.mem_of_getElem? hj)
      have hev2 := s2 _ _ hev
      obtain ⟨x, hx2, t, rfl, ht⟩ := Paired.at hEP (edN_at hjl)
      have ht2 := s2 _ _ ht
      have s02 := Same.trans s1 s2
      refine ⟨rfl, _, rfl, _, rfl, ea, _, _, _, rfl, rfl, SqL.of hev2, atI_nat hx2, ?_⟩
      refine ⟨_, rfl, _, rfl, b, _, _, _, rfl, rfl, SqL.of (s02 _ _ hB), atI_int (getD_at (i := j) (by omega)), _, rfl, _, rfl, a, _, _, _, rfl, rfl, SqL.of (s02 _ _ hA), atI_int (getD_at (i := j) (by omega)), _, _, rfl, rfl, (by show 1 ≤ sizeLine; decide), fun T hT => ?_⟩
      have s3 : Same H2 (upd H2 T (.tup [.int (M.getD j 0 - L.getD j 0)])) := same_upd hT
      have hT3 : upd H2 T (.tup [.int (M.getD j 0 - L.getD j 0)]) T = some (.tup [.int (M.getD j 0 - L.getD j 0)]) := upd_same
      generalize upd H2 T (.tup [.int (M.getD j 0 - L.getD j 0)]) = H3 at s3 hT3 ⊢
      refine ⟨t, T, _, _, rfl, rfl, SqT.of (s3 _ _ ht2), SqT.of hT3, by simp, (by show 3 ≤ sizeLine; decide), (fun z => by cases z), fun _ U hU => ?_⟩
      exact hy (.ref U) _ (Same.trans s3 (same_upd hU)) ⟨U, rfl, (ne_of_none (s3 _ _ hD2) hU).symm, upd_same⟩
    · exact q Dd H2 (Same.free s1 hD) (Same.trans s1 s2) ⟨acc, hD2, RowN.rows hP2⟩
def spSysOf (C CS : Addr) : Sp := fun vs H Q _ => ∃ (p : Addr) (n : Nat) (es : List (Nat × Nat)) (a b : Addr) (L M : List Int), vs = [.ref p, .ref a, .ref b] ∧ WebAt C H p n es ∧ WebOk n es ∧ IntsAt H a L ∧ L.length = es.length ∧ IntsAt H b M ∧ M.length = es.length ∧
  ∀ (x : Addr) (H' : Hp) (gs : List (List Nat)), H x = none → Same H H' → SysAt CS H' x (rowsN es L M) (linksN n es (forestN n es)) gs → Comps (linksN n es (forestN n es)) n gs → Q (.ref x) H'
theorem cal_sysof {C CS : Addr} (G : Bn mg) (cd : C8.Cal P w K mg base 2 "difference_rows" (spDiff C) []) (ms : C8.Met P w K mg base 1 C "size" (spWS C) []) (mm : C8.Met P w K mg base 1 C "modulus" (spWM C) []) (ml : C8.Met P w K mg base 1 C "__len__" (spWL C) []) (mk : C8.Mak P w K mg base 3 "System" CS (spSysInit CS) []) (D : DefAt K mg "system_of" ssystem_of) :
    C8.Cal P w K mg base 5 "system_of" (spSysOf C CS) [] := by
  refine D.cal scsystem_of (fun _ _ _ _ _ _ us hl => match us, hl with | [_, _, _], _ => rfl) (fun vs H Q E h => ?_) (fun f cdv A outer s H vs Q E hr h => ?_)
  · obtain ⟨p, n, es, a, b, L, M, rfl, _⟩ := h
    rfl
  · obtain ⟨p, n, es, a, b, L, M, rfl, hW, ok, hA, lL, hB, lM, q⟩ := h
    obtain ⟨dx, fs, hp, f1, f2, f3⟩ := wf_of hW
    have l18 := ok.l18
    have n12 := ok.n12
    refine ⟨_, (pss_one (ps_ret (C8.pe_mk mk hr (by decide) (by rfl) (pa_cons (C8.pe_mt0 ms hr (by decide) (pv 0)) (pa_cons (C8.pe_mt0 mm hr (by decide) (pv 0)) (pa_cons (C8.pe_c cd hr (by decide) (by rfl) (pa_cons (pv 0) (pa_cons (pv 1) (pa_cons (pv 2) (pa_cons (pe_listRg rfl (by rfl) G.list (prg_1 (by rfl) G.range (pe_callB (call_lenOwn ml hr (by decide)) (by rfl) G.len (by decide +kernel) (pa_cons (pv 0) pa_nil)))) pa_nil))))) pa_nil)))))), ?_⟩
    refine ⟨_, rfl, p, dx, fs, rfl, hp, f1, p, n, es, rfl, hW, ?_⟩
    refine ⟨_, rfl, p, dx, fs, rfl, hp, f2, p, n, es, rfl, hW, ?_⟩
    refine ⟨_, rfl, _, rfl, _, rfl, _, rfl, p, dx, fs, rfl, hp, p, n, es, rfl, hW, _, rfl, by omega, by omega, ?_⟩
    refine ⟨_, rfl, .of_le (by decide) (by omega) (by decide) (by omega), fun N hN => ?_⟩
    rw [rgV_nodes]
    have s1 : Same H (upd H N (.lst ((List.range es.length).map nI))) := same_upd hN
    have hN1 : upd H N (.lst ((List.range es.length).map nI)) N = some (.lst ((List.range es.length).map nI)) := upd_same
    generalize upd H N (.lst ((List.range es.length).map nI)) = H1 at s1 hN1 ⊢
    refine ⟨p, n, es, a, b, N, L, M, rfl, hW.same s1, ok, s1 _ _ hA, lL, s1 _ _ hB, lM, hN1, fun l H2 hl s2 hR2 => ?_⟩
    refine fun x xd hx hxd nx => ?_
    have sA : Same H2 (upd (upd H2 xd (.own x)) x (.ins CS xd [])) := Same.trans (same_upd hxd) (same_upd (by rw [upd_ne nx.symm]; exact hx))
    refine ⟨x, xd, n, l, rowsN es L M, rfl, upd_same, hR2.same sA, n12, by rw [rowsN_len]; exact l18, fun r hr2 => ?_, fun H3 gs s3 hS hC => ?_⟩
    · obtain ⟨i, hi, rfl⟩ := List.mem_map.mp hr2
      exact ok.lt _ (edN_mem (List.mem_range.mp hi))
    · rw [rowsN_es] at hS hC
      have s02 := Same.trans s1 s2
      have fx : H x = none := Same.free s02 hx
      have fxd : H xd = none := Same.free s02 hxd
      refine ⟨rfl, q x H3 gs fx (fun c o h => s3 _ _ (ne_of_none h fx) (sA _ _ (s02 _ _ h))) hS hC⟩
def spLeads (K : PySem.W.Frag) (C : Addr) : Sp := fun vs H Q _ => ∃ (p : Addr) (n : Nat) (es : List (Nat × Nat)) (a b c T : Addr) (L Pt : List Int), vs = [.ref p, .ref a, .ref b, .ref c, .ref T] ∧ WebAt C H p n es ∧ WebOk n es ∧ IntsAt H a L ∧ L.length = es.length ∧ IntsAt H b (swN L es Pt) ∧ IntsAt H c Pt ∧ Pt.length = n ∧ SqT K H T [] ∧
  ∀ (H' : Hp), Same H H' → Q (.bl true) H'
theorem cal_leads {C : Addr} (G : Bn mg) (ci : C8.Cal P w K mg base 5 "is_potential" (spIsP C) []) (cs : C8.Cal P w K mg base 7 "switched" (spSwitched C) []) (D : DefAt K mg "leads" sleads) : C8.Cal P w K mg base 8 "leads" (spLeads K C) [] := by
  refine D.cal scleads (fun _ _ _ _ _ _ us hl => match us, hl with | [_, _, _, _, _], _ => rfl) (fun vs H Q E h => ?_) (fun f cdv A outer s H vs Q E hr h => ?_)
  · obtain ⟨p, n, es, a, b, c, T, L, Pt, rfl, _⟩ := h
    rfl
  · obtain ⟨p, n, es, a, b, c, T, L, Pt, rfl, hW, ok, hA, lL, hB, hC, lP, hT, q⟩ := h
    refine ⟨_, (pss_cons (ps_if (PW.pt (pw_or (pt_not (pt_val (C8.pe_c ci hr (by decide) (by rfl) (pa_cons (pv 0) (pa_cons (pv 3) pa_nil))))) (pw_or1 (pt_cmpR (op_neD hr.units) (C8.pe_c cs hr (by decide) (by rfl) (pa_cons (pv 0) (pa_cons (pv 1) (pa_cons (pv 3) pa_nil)))) (pv 2) (nomark _)))))
  (pss_one ps_never)
  pss_nil)
  (pss_one (ps_ret (pe_callB (cAll K rfl) (by rfl) G.all (by decide +kernel) (pa_cons (pe_lc (own := [("node", 5)]) rfl scleads.nd (piT K (pv 4)) (blkOk_by (N := Nleads) (sc := defScope sleads) (by decide +kernel)) (fun _ _ _ _ _ => (pg_name (i := 5) scleads.nd rfl (Or.inl rfl))) (fun _ _ _ _ _ => pts_nil) (fun _ _ _ _ _ => (pe_cmpR op_eq (pe_ix (ixL K) (pv 3) (pv 5) (fun _ _ => rfl)) pe_int (nomark _)))) pa_nil))))), ?_⟩
    refine ⟨_, rfl, _, rfl, p, n, es, c, Pt, rfl, hW, ok, hC, lP, fun H1 s1 => ⟨_, rfl, ?_⟩⟩
    show if (!true) = true then _ else _
    refine iteF ?_
    refine ⟨_, rfl, _, rfl, _, rfl, p, n, es, a, c, L, Pt, rfl, hW.same s1, ok, s1 _ _ hA, lL, s1 _ _ hC, lP, fun l H2 hl s2 hL2 => ?_⟩
    have s02 := Same.trans s1 s2
    refine ⟨_, rfl, _, _, dp_ints hL2, dp_ints (s02 _ _ hB), PySem.W.shaped_ints _, PySem.W.shaped_ints _, _, rfl, ?_⟩
    rw [eqv_ints]
    refine iteF ?_
    have hT2 := Same.tup s02 hT
    refine ⟨_, rfl, T, rfl, ⟨_, hT2⟩, fun Dd hD => ?_⟩
    refine lc_t0 hT2 hD ?_
    exact ⟨Dd, [], rfl, SqL.of upd_same, q _ (Same.trans s02 (same_upd hD))⟩
end
end K29
namespace K29
open PySem PySem.Spec PyProof.Rows L2 LamX NdefX
/-! ### defs called by keywords; defs that make lambdas -/
structure CalK (P : Program) (w : World) (K : PySem.W.Frag) (mg : Str → Option Value) (base : Heap) (k : Nat) (x : Str) (sp : Sp) (n : Nat) (ks : List Str) (gV : List V → List V → List V) : Prop where
  ex : ∃ (f : Addr) (fd : FuncData) (ps : List Str) (g : List Value → List Value → List Value), FnOk P w K mg base C8.CX0 k f fd ps sp ∧ mg x = some (.ref f) ∧ PySem.W.keepIn K (.ref f) = true ∧ KBn K fd ps n ks g gV
theorem pe_ck {X : Cx} {k j n : Nat} {x : Str} {sp : Sp} {ks : List Str} {gV : List V → List V → List V} {e : Expr} {es : List Expr} {kws : List Keyword} {t tk : TA} {p pos : Pos} (c : CalK X.prog X.w X.K X.mg X.base k x sp n ks gV) (hr : Room j X.A) (hk : k ≤ j) (hg : Gl X x)
    (ha : PA X (e :: es) t) (hkw : PK X kws tk) (hall : (backToKw pos (keywordEach kws X.env)).all (·.1.isSome) = true := by rfl) (hks : (backToKw pos (keywordEach kws X.env)).filterMap (·.1) = ks := by rfl)
    (hdb : (x == ("__debug__" : Str)) = false := by decide) (he : starEach (e :: es) X.env = (false, eval e X.env) :: starEach es X.env := by rfl)
    (hpl : ((backTo pos (starEach (e :: es) X.env)).any (·.1) || (backToKw pos (keywordEach kws X.env)).any (·.1.isNone)) = false := by rfl) :
    PE X (.Call (.Name x p) (e :: es) kws pos) (tCallN n ks.length sp gV C8.E0 t tk) := by
  obtain ⟨f, fd, ps, g, F, hm, kp, b⟩ := c.ex
  exact pe_callN F (hr.mono hk) hg hm kp b C8.pass0 ha hkw hall hks hdb he hpl
/-- a def with keyword-only parameters, no positional defaults -/
structure DefKw (K : PySem.W.Frag) (mg : Str → Option Value) (x : Str) (st : Stmt) (kws : List (Str × V)) : Prop where
  ex : ∃ (f : Addr) (fd : FuncData), FunD K x x (defArgs st) (defBody st) (defScope st) [] kws f fd ∧ mg x = some (.ref f)
/-- .. whose code object is at c -/
structure DefKwC (K : PySem.W.Frag) (mg : Str → Option Value) (x : Str) (st : Stmt) (kws : List (Str × V)) (c : Addr) : Prop where
  ex : ∃ (f : Addr) (fd : FuncData), FunD K x x (defArgs st) (defBody st) (defScope st) [] kws f fd ∧ mg x = some (.ref f) ∧ fd.code = .ref c
structure DefAtC (K : PySem.W.Frag) (mg : Str → Option Value) (x : Str) (st : Stmt) (c : Addr) : Prop where
  ex : ∃ (f : Addr) (fd : FuncData), FunD K x x (defArgs st) (defBody st) (defScope st) [] [] f fd ∧ mg x = some (.ref f) ∧ fd.code = .ref c
/-- the body of a def whose code object is at c -/
abbrev BodyC (P : Program) (w : World) (K : PySem.W.Frag) (mg : Str → Option Value) (base : Heap) (N : List Str) (qual : Str) (st : Stmt) (k : Nat) (c : Addr) (sp : Sp) : Prop :=
  ∀ (f : Addr) (A : Around) (outer : List Env) (s : Shared) (H : Hp) (vs : List V) (Q : VK) (E : XK), Room k (A.deeper (envOfC qual (defScope st) s.heap.objs.size f (.ref c))) → sp vs H Q E →
      ∃ t, PSs (cxOf C8.CX0 P w K mg base N qual (defScope st) f (.ref c) A outer s H E).nox (defBody st) t ∧ t { nx := fun _ H' => Q .non H', rt := Q } (start N vs) H
section
variable {P : Program} {w : World} {K : PySem.W.Frag} {mg : Str → Option Value} {base : Heap}
theorem FunD.okC {x qual : Str} {params : Arguments} {body : List Stmt} {scope : Scope} {dvs : List V} {kws : List (Str × V)} {f : Addr} {fd : FuncData} {N ps : List Str} {k : Nat} {sp : Sp} {c : Addr} (F : FunD K x qual params body scope dvs kws f fd) (hc : fd.code = .ref c) (S : FnScope N ps scope) (len : ∀ vs H Q E, sp vs H Q E → vs.length = ps.length)
    (hbody : ∀ (A : Around) (outer : List Env) (s : Shared) (H : Hp) (vs : List V) (Q : VK) (E : XK), Room k (A.deeper (envOfC qual scope s.heap.objs.size f (.ref c))) → sp vs H Q E →
      ∃ t, PSs (cxOf C8.CX0 P w K mg base N qual scope f (.ref c) A outer s H E) body t ∧ t { nx := fun _ H' => Q .non H', rt := Q } (start N vs) H) : FnOk P w K mg base C8.CX0 (k + 1) f fd ps sp := by
  obtain ⟨oc, od, dV, kV, doc, pm, an, cdv, ct, osl, rfl, lk, hcd, _, _⟩ := F.ex
  have e : cdv = .ref c := hc
  subst e
  exact fn_of lk hcd S len fun A outer s H vs Q E hr hsp => hbody A outer s H vs Q E hr hsp
theorem DefAtC.cal {x : Str} {st : Stmt} {N ps : List Str} {k : Nat} {c : Addr} {sp : Sp} (D : DefAtC K mg x st c) (S : FnScope N ps (defScope st))
    (hb : ∀ (kV doc pm : Value) (an : Option Addr) (cdv ct : Value) (us : List Value), us.length = ps.length → bindArgs (PySem.W.fnOf x x (defArgs st) (defBody st) (defScope st) .none kV doc pm an cdv ct) ⟨us, []⟩ = pure (ps.zip us))
    (len : ∀ vs H Q E, sp vs H Q E → vs.length = ps.length) (hbody : BodyC P w K mg base N x st k c sp) : C8.Cal P w K mg base (k + 1) x sp [] := by
  obtain ⟨f, fd, F, hm, hc⟩ := D.ex
  refine ⟨f, fd, ps, [], FunD.okC F hc S len (fun A outer s H vs Q E hr h => ?_), hm, F.kp, FunD.bindsN F hb, .nil⟩
  obtain ⟨t, h1, h2⟩ := hbody f A outer s H vs Q E hr h
  exact ⟨t, h1.nox, h2⟩
theorem DefKw.cal {x : Str} {st : Stmt} {kws : List (Str × V)} {N ps : List Str} {k : Nat} {sp : Sp} (D : DefKw K mg x st kws) (S : FnScope N ps (defScope st)) (n : Nat) (ks : List Str) (ms : List (Str × V)) (g : {α : Type} → List α → List α → List α → List α) (hk : kws ≠ []) (hms : ∀ q ∈ ms, q ∈ kws)
    (hrel : ∀ {vs mz zs : List V} {us mv ws : List Value}, Vals vs us → Vals mz mv → Vals zs ws → Vals (g vs mz zs) (g us mv ws))
    (hb : ∀ (D : Addr) (doc pm : Value) (an : Option Addr) (cdv ct : Value) (us mv ws : List Value), us.length = n → mv.length = ms.length → ws.length = ks.length →
      KwChain D ((ms.map (·.1)).zip mv) (bindArgs (PySem.W.fnOf x x (defArgs st) (defBody st) (defScope st) .none (.ref D) doc pm an cdv ct) ⟨us, ks.zip ws⟩) (ps.zip (g us mv ws)))
    (len : ∀ vs H Q E, sp vs H Q E → vs.length = ps.length) (hbody : Body P w K mg base N x st k sp) : CalK P w K mg base (k + 1) x sp n ks (fun vs zs => g vs (ms.map (·.2)) zs) := by
  obtain ⟨f, fd, F, hm⟩ := D.ex
  obtain ⟨mv, hKB⟩ := F.kbinds0 n ks ms g hk hms hrel hb
  refine ⟨f, fd, ps, _, F.ok S len (fun cdv A outer s H vs Q E hr h => ?_), hm, F.kp, hKB⟩
  obtain ⟨t, h1, h2⟩ := hbody f cdv A outer s H vs Q E hr h
  exact ⟨t, h1.nox, h2⟩
theorem DefKwC.cal {x : Str} {st : Stmt} {kws : List (Str × V)} {N ps : List Str} {k : Nat} {c : Addr} {sp : Sp} (D : DefKwC K mg x st kws c) (S : FnScope N ps (defScope st)) (n : Nat) (ks : List Str) (ms : List (Str × V)) (g : {α : Type} → List α → List α → List α → List α) (hk : kws ≠ []) (hms : ∀ q ∈ ms, q ∈ kws)
    (hrel : ∀ {vs mz zs : List V} {us mv ws : List Value}, Vals vs us → Vals mz mv → Vals zs ws → Vals (g vs mz zs) (g us mv ws))
    (hb : ∀ (D : Addr) (doc pm : Value) (an : Option Addr) (cdv ct : Value) (us mv ws : List Value), us.length = n → mv.length = ms.length → ws.length = ks.length →
      KwChain D ((ms.map (·.1)).zip mv) (bindArgs (PySem.W.fnOf x x (defArgs st) (defBody st) (defScope st) .none (.ref D) doc pm an cdv ct) ⟨us, ks.zip ws⟩) (ps.zip (g us mv ws)))
    (len : ∀ vs H Q E, sp vs H Q E → vs.length = ps.length) (hbody : BodyC P w K mg base N x st k c sp) : CalK P w K mg base (k + 1) x sp n ks (fun vs zs => g vs (ms.map (·.2)) zs) := by
  obtain ⟨f, fd, F, hm, hc⟩ := D.ex
  obtain ⟨mv, hKB⟩ := F.kbinds0 n ks ms g hk hms hrel hb
  refine ⟨f, fd, ps, _, FunD.okC F hc S len (fun A outer s H vs Q E hr h => ?_), hm, F.kp, hKB⟩
  obtain ⟨t, h1, h2⟩ := hbody f A outer s H vs Q E hr h
  exact ⟨t, h1.nox, h2⟩
end
/-- all that is neither frozen nor a table stays -/
def Nf (H H' : Hp) : Prop := ∀ b o, H b = some o → (∀ ob u, o ≠ .frz ob u) → (∀ ps, o ≠ .tbl ps) → H' b = some o
theorem Nf.of {H H' : Hp} (e : Same H H') : Nf H H' := fun b o h _ _ => e b o h
theorem Nf.ext {H H' : Hp} (e : ExtN H H') : Nf H H' := fun b o h _ n => e b o h n
theorem Nf.trans {H H1 H2 : Hp} (a : Nf H H1) (b : Nf H1 H2) : Nf H H2 := fun c o h n m => b c o (a c o h n m) n m
theorem Nf.unt {H : Hp} {cl : List (Str × Addr)} {fr : List Str} {ws : List V} (C : CelH H cl fr ws) : Nf H (K29.unt cl H) := fun b o h n _ => by
  rw [unt_not (C.nc h n)]
  exact h
theorem Nf.lst {H H' : Hp} (e : Nf H H') {a : Addr} {xs : List V} (h : H a = some (.lst xs)) : H' a = some (.lst xs) := e _ _ h (fun _ _ z => by cases z) (fun _ z => by cases z)
theorem Nf.tups {H H' : Hp} (e : Nf H H') : Tups H H' := fun a xs h => e _ _ h (fun _ _ z => by cases z) (fun _ z => by cases z)
theorem Nf.ins {H H' : Hp} (e : Nf H H') {a C dx : Addr} {fs : List (Str × V)} (h : H a = some (.ins C dx fs)) : H' a = some (.ins C dx fs) := e _ _ h (fun _ _ z => by cases z) (fun _ z => by cases z)
theorem EdgesAt.nf {H H' : Hp} {a : Addr} {es : List (Nat × Nat)} (h : EdgesAt H a es) (e : Nf H H') : EdgesAt H' a es := by
  obtain ⟨vs, h1, h2⟩ := h
  exact ⟨vs, e.lst h1, Paired.mapP h2 fun v x => PairR.mono e.tups⟩
theorem WebAt.nf {C : Addr} {H H' : Hp} {p : Addr} {n : Nat} {es : List (Nat × Nat)} (h : WebAt C H p n es) (e : Nf H H') : WebAt C H' p n es := by
  obtain ⟨dx, ea, fa, la, h1, h2⟩ := h
  exact ⟨dx, ea, fa, la, e.ins h1, EdgesAt.nf h2 e⟩
theorem GroupsAt.nf {H H' : Hp} {a : Addr} {gs : List (List Nat)} (h : GroupsAt H a gs) (e : Nf H H') : GroupsAt H' a gs := by
  obtain ⟨vs, h1, h2⟩ := h
  exact ⟨vs, e.lst h1, Paired.mapP h2 fun v x ⟨a, r, q⟩ => ⟨a, r, e.lst q⟩⟩
end K29
namespace K29
/-! ### costs -/
def costN (W P : List Int) (g : List Nat) : Int := (g.map fun v => W.getD v 0 * absI (P.getD v 0)).sum
structure WtOk (n : Nat) (W : List Int) : Prop where
  len : W.length = n
  pos : ∀ x ∈ W, 1 ≤ x
  top : ∀ x ∈ W, x ≤ 2 ^ 40
/-- the nodes of g moved by c -/
def shF (P : List Int) (g : List Nat) (c : Int) : List Int := g.foldl (fun L v => L.set v (L.getD v 0 + c)) P
theorem shF_len (P : List Int) (g : List Nat) (c : Int) : (shF P g c).length = P.length := by
  unfold shF
  induction g generalizing P with
  | nil => rfl
  | cons v r ih =>
    rw [List.foldl_cons, ih, List.length_set]
theorem shF_take {P : List Int} {g : List Nat} {c : Int} {i v : Nat} (h : g[i]? = some v) : shF P (g.take (i + 1)) c = (shF P (g.take i) c).set v ((shF P (g.take i) c).getD v 0 + c) := by
  unfold shF
  rw [List.take_add_one, h, List.foldl_append]
  rfl
theorem WtOk.at {n : Nat} {W : List Int} (h : WtOk n W) {v : Nat} (hv : v < n) : 1 ≤ W.getD v 0 ∧ W.getD v 0 ≤ 2 ^ 40 := by
  have l := h.len
  have e : W.getD v 0 ∈ W := by
    rw [show W.getD v 0 = W[v] by simp [show v < W.length by omega]]
    exact List.getElem_mem _
  exact ⟨h.pos _ e, h.top _ e⟩
end K29
namespace K29
open PySem PySem.Spec PyProof.Rows L2 LamX NdefX
section
variable {P : Program} {w : World} {K : PySem.W.Frag} {mg : Str → Option Value} {base : Heap}
def spCW (C : Addr) : Sp := fun vs H Q _ => ∃ (p : Addr) (n : Nat) (es : List (Nat × Nat)) (a : Addr) (W : List Int), vs = [.ref p, .ref a] ∧ WebAt C H p n es ∧ WebOk n es ∧ IntsAt H a W ∧ WtOk n W ∧ ∀ (l : Addr) (H' : Hp), H l = none → Same H H' → IntsAt H' l W → Q (.ref l) H'
theorem cal_cw {C : Addr} (G : Bn mg) (ci : C8.Cal P w K mg base 1 "is_integer" spIsInt []) (ms : C8.Met P w K mg base 1 C "size" (spWS C) []) (D : DefAt K mg "checked_weights" schecked_weights) : C8.Cal P w K mg base 2 "checked_weights" (spCW C) [] := by
  refine D.cal scchecked_weights (fun _ _ _ _ _ _ us hl => match us, hl with | [_, _], _ => rfl) (fun vs H Q E h => ?_) (fun f cdv A outer s H vs Q E hr h => ?_)
  · obtain ⟨p, n, es, a, W, rfl, _⟩ := h
    rfl
  · obtain ⟨p, n, es, a, W, rfl, hW, ok, hA, wt, q⟩ := h
    obtain ⟨dx, fs, hp, f1, _⟩ := wf_of hW
    have n12 := ok.n12
    have wl := wt.len
    refine ⟨_, (pss_cons (ps_if (pt_cmpR op_isN (pv 1) pe_non (nomark _))
  (pss_one ps_never)
  pss_nil)
  (pss_cons (ps_set (i := 2) scchecked_weights.nd rfl (Or.inl rfl) (pe_and (pe_callB (cIsiT K) (by rfl) G.isinstance (by decide +kernel) (pa_cons (pv 1) (pa_cons (pe_tup (pa_cons (pe_bltn (v := .ty "list") (by rfl) G.list (by decide +kernel) rfl) (pa_cons (pe_bltn (v := .ty "tuple") (by rfl) G.tuple (by decide +kernel) rfl) pa_nil))) pa_nil))) (pe_one (pe_cmpR op_eq (pe_callB (cLen K) (by rfl) G.len (by decide +kernel) (pa_cons (pv 1) pa_nil)) (C8.pe_mt0 ms hr (by decide) (pv 0)) (nomark _)))))
  (pss_cons (ps_if (PW.pt (pw_or (pt_not (pt_truth (pv 2) (by intro _; rfl))) (pw_or1 (pt_not (pt_val (pe_callB (cAll K rfl) (by rfl) G.all (by decide +kernel) (pa_cons (pe_lc (own := [("weight", 3)]) rfl scchecked_weights.nd (piL K (pv 1)) (blkOk_by (N := Nchecked_weights) (sc := defScope schecked_weights) (by decide +kernel)) (fun _ _ _ _ _ => (pg_name (i := 3) scchecked_weights.nd rfl (Or.inl rfl))) (fun _ _ _ _ _ => pts_nil) (fun _ _ _ _ _ => (pe_and (C8.pe_c ci hr (by decide) (by rfl) (pa_cons (pv 3) pa_nil)) (pe_one (pe_cmpR op_ge (pv 3) pe_int (nomark _)))))) pa_nil)))))))
  (pss_one (ps_never))
  pss_nil)
  (pss_one (ps_ret (pe_callTy call_list_of (by rfl) G.list (by decide +kernel) (pa_cons (pv 1) pa_nil))))))), ?_⟩
    refine ⟨_, rfl, rfl, _, rfl, ?_⟩
    rw [show decide (V.ref a = V.non) = false by simp]
    refine iteF ?_
    refine ⟨_, rfl, (by show 2 ≤ sizeLine; decide), fun T hT => ?_⟩
    have s1 : Same H (upd H T (.tup [.ty "list", .ty "tuple"])) := same_upd hT
    refine ⟨_, T, _, _, _, true, rfl, upd_same, .cons (.ty _) (.cons (.ty _) .nil), .base (.lst (s1 _ _ hA)), kitAny_cons (b := true) (kit_ty (by decide +kernel)) (fun z => by cases z) (fun _ => rfl), _, rfl, iteT ?_⟩
    generalize upd H T (.tup [.ty "list", .ty "tuple"]) = H1 at s1 ⊢
    have hA1 : IntsAt H1 a W := s1 _ _ hA
    refine ⟨_, rfl, _, _, rfl, .inl (SqL.of hA1), _, rfl, p, dx, fs, rfl, s1 _ _ hp, f1, p, n, es, rfl, hW.same s1, rfl, ?_⟩
    rw [List.length_map, wl, show decide (V.int (n : Int) = V.int (n : Int)) = true by simp]
    refine ⟨_, rfl, true, rfl, ?_⟩
    show if (!true) = true then _ else _
    refine iteF ?_
    refine ⟨_, rfl, a, rfl, ⟨_, SqL.of hA1⟩, fun Dd hD => ?_⟩
    refine lc_fg V.int (fun x => some (V.bl (decide (1 ≤ x)))) (SqL.of hA1) hD (Nat.le_of_lt (small_lt (by omega))) (fun j x acc R N hx hy hno => ?_) ?_
    · refine ⟨rfl, _, rfl, x, rfl, _, rfl, iteT ⟨_, rfl, _, _, rfl, rfl, hy _ rfl⟩⟩
    · rw [fm_some2 _ (fun x => V.bl (decide (1 ≤ x))) (fun _ => rfl)]
      have e0 : W.map (fun x => V.bl (decide (1 ≤ x))) = (W.map fun x => decide (1 ≤ x)).map V.bl := by rw [List.map_map] <;> rfl
      rw [e0]
      refine ⟨Dd, _, rfl, SqL.of upd_same, _, rfl, ?_⟩
      have e1 : (W.map fun x => decide (1 ≤ x)).all id = true := by
        rw [List.all_map]
        refine List.all_eq_true.mpr fun x hx => ?_
        exact decide_eq_true (wt.pos x hx)
      rw [e1]
      refine iteF ?_
      have s2 : Same H1 (upd H1 Dd (.lst ((W.map fun x => decide (1 ≤ x)).map V.bl))) := same_upd hD
      generalize upd H1 Dd (.lst ((W.map fun x => decide (1 ≤ x)).map V.bl)) = H2 at s2 ⊢
      have s02 := Same.trans s1 s2
      refine ⟨_, rfl, a, _, rfl, .inl (SqL.of (s02 _ _ hA)), fun l hl => ?_⟩
      exact q l _ (Same.free s02 hl) (Same.trans s02 (same_upd hl)) upd_same
def spTotal (C : Addr) : Sp := fun vs H Q _ => ∃ (p : Addr) (n : Nat) (es : List (Nat × Nat)) (a b na : Addr) (W Pt : List Int) (g : List Nat), vs = [.ref p, .ref a, .ref b, .ref na] ∧ WebAt C H p n es ∧ IntsAt H a Pt ∧ Pt.length = n ∧ IntsAt H b W ∧ WtOk n W ∧ NodesAt H na g ∧ g.length ≤ 12 ∧ (∀ v ∈ g, v < n) ∧
  ∀ (H' : Hp), Same H H' → Q (.int (costN W Pt g)) H'
theorem cal_total {C : Addr} (G : Bn mg) (cs : C8.Cal P w K mg base 3 "size_of" (spSizeOf C) []) (D : DefAt K mg "total_cost" stotal_cost) : C8.Cal P w K mg base 4 "total_cost" (spTotal C) [] := by
  refine D.cal sctotal_cost (fun _ _ _ _ _ _ us hl => match us, hl with | [_, _, _, _], _ => rfl) (fun vs H Q E h => ?_) (fun f cdv A outer s H vs Q E hr h => ?_)
  · obtain ⟨p, n, es, a, b, na, W, Pt, g, rfl, _⟩ := h
    rfl
  · obtain ⟨p, n, es, a, b, na, W, Pt, g, rfl, hW, hA, lP, hB, wt, hN, lg, hg, q⟩ := h
    have wl := wt.len
    refine ⟨_, (pss_one (ps_ret (pe_callB (cSum K rfl) (by rfl) G.sum (by decide +kernel) (pa_cons (pe_lc (own := [("node", 4)]) rfl sctotal_cost.nd (piL K (pv 3)) (blkOk_by (N := Ntotal_cost) (sc := defScope stotal_cost) (by decide +kernel)) (fun _ _ _ _ _ => (pg_name (i := 4) sctotal_cost.nd rfl (Or.inl rfl))) (fun _ _ _ _ _ => pts_nil) (fun _ _ _ _ _ => (pe_op op_mul (pe_ix (ixL K) (pv 2) (pv 4) (fun _ _ => rfl)) (C8.pe_c cs hr (by decide) (by rfl) (pa_cons (pv 0) (pa_cons (pe_ix (ixL K) (pv 1) (pv 4) (fun _ _ => rfl)) pa_nil)))))) pa_nil)))), ?_⟩
    refine ⟨_, rfl, na, rfl, ⟨_, SqL.of hN⟩, fun Dd hD => ?_⟩
    refine lc_fg nI (fun v => some (V.int (W.getD v 0 * absI (Pt.getD v 0)))) (SqL.of hN) hD (Nat.le_of_lt (small_lt (by omega))) (fun j v acc R N hv hy hno => ?_) ?_
    · have hvn := hg v (List.mem_of_getElem? hv)
      have s1 : Same H (upd H Dd (.lst acc)) := same_upd hD
      obtain ⟨w1, w2⟩ := wt.at hvn
      refine ⟨rfl, _, rfl, _, rfl, b, _, _, _, rfl, rfl, SqL.of (s1 _ _ hB), atI_int (getD_at (i := v) (by omega)), ?_⟩
      refine ⟨_, rfl, _, rfl, _, rfl, a, _, _, _, rfl, rfl, SqL.of (s1 _ _ hA), atI_int (getD_at (i := v) (by omega)), p, n, es, _, rfl, hW.same s1, ?_⟩
      exact ⟨_, _, rfl, rfl, .inl ⟨by omega, by omega⟩, hy _ rfl⟩
    · rw [fm_some2 _ (fun v => V.int (W.getD v 0 * absI (Pt.getD v 0))) (fun _ => rfl)]
      have e0 : g.map (fun v => V.int (W.getD v 0 * absI (Pt.getD v 0))) = (g.map fun v => W.getD v 0 * absI (Pt.getD v 0)).map V.int := by rw [List.map_map] <;> rfl
      rw [e0]
      exact ⟨Dd, _, rfl, SqL.of upd_same, q _ (same_upd hD)⟩
def spCost (C : Addr) : Sp := fun vs H Q _ => ∃ (p : Addr) (n : Nat) (es : List (Nat × Nat)) (a b : Addr) (W Pt : List Int), vs = [.ref p, .ref a, .ref b] ∧ WebAt C H p n es ∧ WebOk n es ∧ IntsAt H a Pt ∧ Pt.length = n ∧ IntsAt H b W ∧ WtOk n W ∧ ∀ (H' : Hp), Same H H' → Q (.int (costN W Pt (List.range n))) H'
theorem cal_cost {C : Addr} (G : Bn mg) (cp : C8.Cal P w K mg base 6 "check_potential" (spChkP C) []) (cw : C8.Cal P w K mg base 2 "checked_weights" (spCW C) []) (ct : C8.Cal P w K mg base 4 "total_cost" (spTotal C) []) (ms : C8.Met P w K mg base 1 C "size" (spWS C) []) (D : DefKw K mg "cost" scost [("weights", .non)]) :
    CalK P w K mg base 7 "cost" (spCost C) 2 ["weights"] (fun vs zs => vs ++ zs) := by
  refine D.cal (ps := ["web", "potential", "weights"]) sccost 2 ["weights"] [] (fun vs mz zs => vs ++ zs) (by simp) (by simp) (fun r1 _ r3 => r1.append r3) (fun D doc pm an cdv ct us mv ws h1 h2 h3 => match us, mv, ws, h1, h2, h3 with
    | [_, _], [], [_], _, _, _ => rfl) (fun vs H Q E h => ?_) (fun f cdv A outer s H vs Q E hr h => ?_)
  · obtain ⟨p, n, es, a, b, W, Pt, rfl, _⟩ := h
    rfl
  · obtain ⟨p, n, es, a, b, W, Pt, rfl, hW, ok, hA, lP, hB, wt, q⟩ := h
    obtain ⟨dx, fs, hp, f1, _⟩ := wf_of hW
    have n12 := ok.n12
    refine ⟨_, (pss_cons (ps_expr (C8.pe_c cp hr (by decide) (by rfl) (pa_cons (pv 0) (pa_cons (pv 1) pa_nil))))
  (pss_one (ps_ret (C8.pe_c ct hr (by decide) (by rfl) (pa_cons (pv 0) (pa_cons (pv 1) (pa_cons (C8.pe_c cw hr (by decide) (by rfl) (pa_cons (pv 0) (pa_cons (pv 2) pa_nil))) (pa_cons (pe_listRg rfl (by rfl) G.list (prg_1 (by rfl) G.range (C8.pe_mt0 ms hr (by decide) (pv 0)))) pa_nil)))))))), ?_⟩
    refine ⟨_, rfl, _, rfl, p, n, es, a, Pt, rfl, hW, ok, hA, lP, fun H1 s1 => ?_⟩
    refine ⟨_, rfl, _, rfl, _, rfl, _, rfl, p, n, es, b, W, rfl, hW.same s1, ok, s1 _ _ hB, wt, fun l H2 hl s2 hL2 => ?_⟩
    have s02 := Same.trans s1 s2
    refine ⟨_, rfl, p, dx, fs, rfl, s02 _ _ hp, f1, p, n, es, rfl, hW.same s02, _, rfl, .of_le (by decide) (by omega) (by decide) (by omega), fun N hN => ?_⟩
    rw [rgV_nodes]
    have s3 : Same H2 (upd H2 N (.lst ((List.range n).map nI))) := same_upd hN
    have s03 := Same.trans s02 s3
    exact ⟨p, n, es, a, l, N, W, Pt, List.range n, rfl, hW.same s03, s03 _ _ hA, lP, s3 _ _ hL2, wt, upd_same, by rw [List.length_range]; exact n12, fun v hv => List.mem_range.mp hv, fun H' s' => q H' (Same.trans s03 s')⟩
def spShift (C : Addr) : Sp := fun vs H Q _ => ∃ (p : Addr) (n : Nat) (es : List (Nat × Nat)) (a na : Addr) (Pt : List Int) (g : List Nat) (c : Int), vs = [.ref p, .ref a, .ref na, .int c] ∧ WebAt C H p n es ∧ IntsAt H a Pt ∧ Pt.length = n ∧ NodesAt H na g ∧ (∀ v ∈ g, v < n) ∧
  ∀ (l : Addr) (H' : Hp), H l = none → Same H H' → IntsAt H' l (shF Pt g c) → Q (.ref l) H'
theorem cal_shift {C : Addr} (G : Bn mg) (cr : C8.Cal P w K mg base 2 "residue" (spResidue C) []) (D : DefAt K mg "shifted" sshifted) : C8.Cal P w K mg base 3 "shifted" (spShift C) [] := by
  refine D.cal scshifted (fun _ _ _ _ _ _ us hl => match us, hl with | [_, _, _, _], _ => rfl) (fun vs H Q E h => ?_) (fun f cdv A outer s H vs Q E hr h => ?_)
  · obtain ⟨p, n, es, a, na, Pt, g, c, rfl, _⟩ := h
    rfl
  · obtain ⟨p, n, es, a, na, Pt, g, c, rfl, hW, hA, lP, hN, hg, q⟩ := h
    refine ⟨_, (pss_cons (ps_set (i := 4) scshifted.nd rfl (Or.inl rfl) (pe_callTy call_list_of (by rfl) G.list (by decide +kernel) (pa_cons (pv 1) pa_nil)))
  (pss_cons (ps_for PassesOwn.never rfl (piL K (pv 2)) (pg_name (i := 5) scshifted.nd rfl (Or.inl rfl))
  (pss_one (ps_asg (C8.pe_c cr hr (by decide) (by rfl) (pa_cons (pv 0) (pa_cons (pe_op op_add (pe_ix (ixL K) (pv 4) (pv 5) (fun _ _ => rfl)) (pv 3)) pa_nil))) (pg_sub (pv 4) (pv 5) set_list))))
  (pss_one (ps_ret (pv 4))))), ?_⟩
    refine ⟨_, rfl, a, _, rfl, .inl (SqL.of hA), fun F hF => ?_⟩
    have s1 : Same H (upd H F (.lst (Pt.map V.int))) := same_upd hF
    refine ⟨_, rfl, na, rfl, ⟨_, SqL.of (s1 _ _ hN)⟩, for_list (K := K) (a := na) (xs := g.map nI) (fun i σ H1 => ∃ o, σ = [some (.ref p), some (.ref a), some (.ref na), some (.int c), some (.ref F), o] ∧ Same H H1 ∧ IntsAt H1 F (shF Pt (g.take i) c))
      ⟨none, rfl, s1, by rw [List.take_zero]; exact upd_same⟩ (fun i σ H1 _ hI => ?_) ?_ ?_⟩
    · obtain ⟨_, _, s2, _⟩ := hI
      exact SqL.of (s2 _ _ hN)
    · rintro i x σ H1 hx ⟨o, rfl, s2, hF1⟩
      obtain ⟨v, hv, rfl⟩ := node_at' hx
      have hvn := hg v (List.mem_of_getElem? hv)
      have ll : (shF Pt (g.take i) c).length = n := by rw [shF_len, lP]
      refine ⟨_, rfl, _, rfl, _, rfl, F, _, _, _, rfl, rfl, SqL.of hF1, atI_int (getD_at (i := v) (by omega)), _, rfl, _, _, rfl, rfl, p, n, es, _, rfl, hW.same s2, ?_⟩
      refine ⟨_, rfl, _, rfl, F, _, _, v, rfl, rfl, hF1, ixN_nat (by rw [List.length_map]; omega), ?_⟩
      refine ⟨_, rfl, fun b o h => ?_, ?_⟩
      · show upd H1 F _ b = _
        rw [upd_ne (ne_of_none h hF)]
        exact s2 _ _ h
      · show upd H1 F _ F = _
        rw [upd_same, shF_take hv, List.map_set]
    · rintro σ H1 ⟨o, rfl, s2, hF1⟩
      rw [List.length_map, List.take_length] at hF1
      exact ⟨_, rfl, q F H1 hF s2 hF1⟩
end
end K29
namespace K29
open PySem PySem.Spec PyProof.Rows L2 LamX NdefX
/-! ### the two lambdas -/
def noE : Expr := .Name "" ⟨0, 0, 0, 0⟩
def lamA : Expr → Arguments
  | .Lambda a _ _ _ => a
  | _ => ⟨[], [], none, [], [], none, []⟩
def lamB : Expr → Expr
  | .Lambda _ b _ _ => b
  | e => e
def lamS : Expr → Scope
  | .Lambda _ _ s _ => s
  | _ => ⟨.function, [], false, false, []⟩
def lamP : Expr → Pos
  | .Lambda _ _ _ p => p
  | _ => ⟨0, 0, 0, 0⟩
def retE : Stmt → Expr
  | .Return (some e) _ => e
  | _ => noE
def argE (i : Nat) : Expr → Expr
  | .Call _ as _ _ => as.getD i noE
  | _ => noE
def kwdE (i : Nat) : Expr → Expr
  | .Call _ _ ks _ => match ks[i]? with
    | some k => k.value
    | none => noE
  | _ => noE
/-- the score, made in cheapest -/
def lam1 : Expr := argE 3 (retE ((defBody scheapest).getD 5 (.Pass ⟨0, 0, 0, 0⟩)))
/-- the key, made in best_shift -/
def lam2 : Expr := kwdE 0 (retE ((defBody sbest_shift).getD 3 (.Pass ⟨0, 0, 0, 0⟩)))
theorem lam1_eq : lam1 = .Lambda (lamA lam1) (lamB lam1) (lamS lam1) (lamP lam1) := by kernel_rfl
theorem lam2_eq : lam2 = .Lambda (lamA lam2) (lamB lam2) (lamS lam2) (lamP lam2) := by kernel_rfl
abbrev Nlam1 : List Str := ["option", "nodes", "web", "weights"]
abbrev Nlam2 : List Str := ["option", "score", "nodes"]
theorem sclam1 : NScope Nlam1 ["option", "nodes"] ["web", "weights"] (lamS lam1) := nscope_by (by decide +kernel)
theorem sclam2 : NScope Nlam2 ["option"] ["score", "nodes"] (lamS lam2) := nscope_by (by decide +kernel)
def lamMk (X : Cx) (e : Expr) (c' : Addr) : NF := ⟨"<lambda>", X.env.qual ++ "<lambda>", lamA e, [], lamS e, cloFrom X.env.cells (lamS e).names [], c'⟩
theorem pe_lambS {X : Cx} {e : Expr} {T : List NTab} {nm : Nat → Nat → Str} {c P : Addr} (he : e = .Lambda (lamA e) (lamB e) (lamS e) (lamP e)) (TB : TabB X.base X.mg c P) (hcode : X.env.code = .ref c) (hm : (P, nm) ∈ T) (hn : nm (lamP e).line (lamP e).col = X.env.qual ++ "<lambda>") (hu : ∀ p ∈ T, p.1 = P → p.2 = nm)
    (hdef : defaultsOf (lamA e) X.env = ([], [])) (hfree : ∀ y ∈ (lamS e).names, y.2 = .free → X.env.scope.names.lookup y.1 = some .cell ∨ X.env.scope.names.lookup y.1 = some .free) : PE X e (tLamb T (lamB e) (lamMk X e)) := by
  have q := pe_lamb (X := X) (body := lamB e) (pos := lamP e) TB hcode hm hn hu hdef hfree
  rw [← he] at q
  exact q
section
variable {P : Program} {w : World} {K : PySem.W.Frag} {mg : Str → Option Value} {base : Heap}
def spScoreL (C : Addr) : List (Option V) → Sp := fun ws vs H Q _ => ∃ (p : Addr) (n : Nat) (es : List (Nat × Nat)) (a b na : Addr) (W Pt : List Int) (g : List Nat), ws = [some (.ref p), some (.ref b)] ∧ vs = [.ref a, .ref na] ∧ WebAt C H p n es ∧ IntsAt H a Pt ∧ Pt.length = n ∧ IntsAt H b W ∧ WtOk n W ∧ NodesAt H na g ∧ g.length ≤ 12 ∧ (∀ v ∈ g, v < n) ∧
  ∀ (H' : Hp), Same H H' → Q (.int (costN W Pt g)) H'
theorem lok_score {C f : Addr} (ct : C8.Cal P w K mg base 4 "total_cost" (spTotal C) []) (F : NF) (hs : F.scope = lamS lam1) (hp : F.params = lamA lam1) : LOk P w K mg base 5 f F (lamB lam1) ["option", "nodes"] ["web", "weights"] (spScoreL C) := by
  obtain ⟨nm, qual, params, body, scope, cl, c⟩ := F
  have hs : scope = lamS lam1 := hs
  have hp : params = lamA lam1 := hp
  subst hs
  subst hp
  refine lok_of (N := Nlam1) sclam1 (fun pm ctv us hl => match us, hl with | [_, _], _ => rfl) (fun ws vs H Q E h => ?_) (fun A outer s H vs ws Q hr _ h => ?_)
  · obtain ⟨p, n, es, a, b, na, W, Pt, g, _, rfl, _⟩ := h
    rfl
  · obtain ⟨p, n, es, a, b, na, W, Pt, g, rfl, rfl, hW, hA, lP, hB, wt, hN, lg, hg, q⟩ := h
    refine ⟨_, C8.pe_c ct hr (by decide) (by rfl) (pa_cons (pv 2) (pa_cons (pv 0) (pa_cons (pv 3) (pa_cons (pv 1) pa_nil)))), ?_⟩
    exact ⟨_, rfl, _, rfl, _, rfl, _, rfl, p, n, es, a, b, na, W, Pt, g, rfl, hW, hA, lP, hB, wt, hN, lg, hg, q⟩
/-- f is the score over the web at p and the weights at b -/
def ScoreAt (C : Addr) (H : Hp) (f p b : Addr) (n : Nat) (es : List (Nat × Nat)) (W : List Int) : Prop := ∃ F : NF, F.scope = lamS lam1 ∧ F.params = lamA lam1 ∧ H f = some (LamO f F (lamB lam1)) ∧ H F.c = some (CodeO F.c F.qual) ∧ CelH H F.cl ["web", "weights"] [.ref p, .ref b] ∧ WebAt C H p n es ∧ IntsAt H b W ∧ WtOk n W
theorem ScoreAt.ext {C : Addr} {H H' : Hp} {f p b : Addr} {n : Nat} {es : List (Nat × Nat)} {W : List Int} (h : ScoreAt C H f p b n es W) (e : ExtN H H') : ScoreAt C H' f p b n es W := by
  obtain ⟨F, h1, h2, h3, h4, h5, h6, h7, h8⟩ := h
  exact ⟨F, h1, h2, e _ _ h3 (fun _ z => by cases z), e _ _ h4 (fun _ z => by cases z), h5.ext e, h6.nf (Nf.ext e), (Nf.ext e).lst h7, h8⟩
def spScoreF (C : Addr) (f : Addr) : Sp := fun vs H Q _ => ∃ (p b : Addr) (n : Nat) (es : List (Nat × Nat)) (a na : Addr) (W Pt : List Int) (g : List Nat), ScoreAt C H f p b n es W ∧ vs = [.ref a, .ref na] ∧ IntsAt H a Pt ∧ Pt.length = n ∧ NodesAt H na g ∧ g.length ≤ 12 ∧ (∀ v ∈ g, v < n) ∧
  ∀ (H' : Hp), Same H H' → Q (.int (costN W Pt g)) H'
theorem fok_score {C : Addr} (ct : C8.Cal P w K mg base 4 "total_cost" (spTotal C) []) : FOk P w K mg base 5 (spScoreF C) := by
  refine ⟨fun f A outer s H us vs Q hr e0 r h => ?_⟩
  obtain ⟨p, b, n, es, a, na, W, Pt, g, ⟨F, h1, h2, h3, h4, h5, h6, h7, h8⟩, rfl, hA, lP, hN, lg, hg, q⟩ := h
  have nf := Nf.unt h5
  refine ⟨?_, (lok_score ct F h1 h2).told hr e0 h3 h4 h5 r ⟨p, n, es, a, b, na, W, Pt, g, rfl, rfl, h6.nf nf, nf.lst hA, lP, nf.lst h7, h8, nf.lst hN, lg, hg, fun H' s' => q _ (retr_same s')⟩⟩
  obtain ⟨od, sl, pm, ctv, ho⟩ := lamO_at e0.hok h3
  exact ⟨_, od, _, sl, ho⟩
def spKey (C : Addr) : List (Option V) → Sp := fun ws vs H Q _ => ∃ (fs p b : Addr) (n : Nat) (es : List (Nat × Nat)) (a na : Addr) (W Pt : List Int) (g : List Nat), ws = [some (.ref fs), some (.ref na)] ∧ vs = [.ref a] ∧ ScoreAt C H fs p b n es W ∧ IntsAt H a Pt ∧ Pt.length = n ∧ NodesAt H na g ∧ g ≠ [] ∧ g.length ≤ 12 ∧ (∀ v ∈ g, v < n) ∧
  ∀ (t : Addr) (H' : Hp), Same H H' → H' t = some (.tup [.int (costN W Pt g), .int (Pt.getD (g.getD 0 0) 0)]) → Q (.ref t) H'
theorem lok_key {C f : Addr} (ct : C8.Cal P w K mg base 4 "total_cost" (spTotal C) []) (F : NF) (hs : F.scope = lamS lam2) (hp : F.params = lamA lam2) : LOk P w K mg base 6 f F (lamB lam2) ["option"] ["score", "nodes"] (spKey C) := by
  obtain ⟨nm, qual, params, body, scope, cl, c⟩ := F
  have hs : scope = lamS lam2 := hs
  have hp : params = lamA lam2 := hp
  subst hs
  subst hp
  refine lok_of (N := Nlam2) sclam2 (fun pm ctv us hl => match us, hl with | [_], _ => rfl) (fun ws vs H Q E h => ?_) (fun A outer s H vs ws Q hr _ h => ?_)
  · obtain ⟨fs, p, b, n, es, a, na, W, Pt, g, _, rfl, _⟩ := h
    rfl
  · obtain ⟨fs, p, b, n, es, a, na, W, Pt, g, rfl, rfl, hF, hA, lP, hN, gne, lg, hg, q⟩ := h
    have FF := fok_score (P := P) (w := w) (K := K) (mg := mg) (base := base) ct
    refine ⟨_, pe_tup (pa_cons (pe_callF (i := 1) FF hr (by decide) rfl (Or.inr (Or.inr rfl)) (pa_cons (pv 0) (pa_cons (pv 2) pa_nil))) (pa_cons (pe_ix (ixL K) (pv 0) (pe_ix (ixL K) (pv 2) pe_int (fun _ _ => rfl)) (fun _ _ => rfl)) pa_nil)), ?_⟩
    obtain ⟨F, h1, h2, h3, _⟩ := id hF
    have g0 : g[0]? = some (g.getD 0 0) := by
      cases g with
      | nil => exact absurd rfl gne
      | cons y r => rfl
    have g0n := hg _ (List.mem_of_getElem? g0)
    refine ⟨fs, F, _, rfl, h3, _, rfl, _, rfl, p, b, n, es, a, na, W, Pt, g, hF, rfl, hA, lP, hN, lg, hg, fun H1 s1 => ?_⟩
    refine ⟨_, rfl, _, rfl, na, _, _, _, rfl, rfl, SqL.of (s1 _ _ hN), atI_node (i := 0) g0, a, _, _, _, rfl, rfl, SqL.of (s1 _ _ hA), atI_int (getD_at (i := g.getD 0 0) (by omega)), (by show 2 ≤ sizeLine; decide), fun T hT => ?_⟩
    exact q T _ (Same.trans s1 (same_upd hT)) upd_same
end
end K29
namespace K29
open PySem PySem.Spec PyProof.Rows L2 LamX NdefX
def qualB : Str := ("best_shift" : Str) ++ ".<locals>." ++ "<lambda>"
def qualC : Str := ("cheapest" : Str) ++ ".<locals>." ++ "<lambda>"
structure TabF (base : Heap) (mg : Str → Option Value) (T : List NTab) (c P : Addr) (q : Str) : Prop where
  tb : TabB base mg c P
  mem : (P, fun _ _ => q) ∈ T
  un : ∀ p ∈ T, p.1 = P → p.2 = fun _ _ => q
def IntsN (D : Addr) (H : Hp) (v : V) (L : List Int) : Prop := ∃ a, v = .ref a ∧ a ≠ D ∧ IntsAt H a L
theorem ints_paired (cs : List Int) : Paired (fun x c => x = V.int c) (cs.map V.int) cs := Paired.of_map V.int (fun _ => rfl) cs
section
variable {P : Program} {w : World} {K : PySem.W.Frag} {mg : Str → Option Value} {base : Heap}
/-- no shift of g by one of its own nodes costs less than the one by u -/
abbrev LeastU (W Pt : List Int) (g : List Nat) (u : Nat) : Prop := ∀ u' ∈ g, costN W (shF Pt g (0 - Pt.getD u 0)) g ≤ costN W (shF Pt g (0 - Pt.getD u' 0)) g
def spBShift (C : Addr) (T : List NTab) : Sp := fun vs H Q _ => ∃ (p b : Addr) (n : Nat) (es : List (Nat × Nat)) (a na fs : Addr) (W Pt : List Int) (g : List Nat), vs = [.ref p, .ref a, .ref na, .ref fs] ∧ WebAt C H p n es ∧ IntsAt H a Pt ∧ Pt.length = n ∧ NodesAt H na g ∧ g ≠ [] ∧ g.length ≤ 12 ∧ (∀ v ∈ g, v < n) ∧ ScoreAt C H fs p b n es W ∧ TabsN T H ∧
  ∀ (r : Addr) (H' : Hp) (u : Nat), u ∈ g → LeastU W Pt g u → ExtN H H' → TabsN T H' → IntsAt H' r (shF Pt g (0 - Pt.getD u 0)) → Q (.ref r) H'
theorem cal_bshift {C c Pc : Addr} {T : List NTab} (G : Bn mg) (TF : TabF base mg T c Pc qualB) (ct : C8.Cal P w K mg base 4 "total_cost" (spTotal C) []) (csh : C8.Cal P w K mg base 3 "shifted" (spShift C) []) (mm : C8.Met P w K mg base 1 C "modulus" (spWM C) []) (D : DefAtC K mg "best_shift" sbest_shift c) :
    C8.Cal P w K mg base 8 "best_shift" (spBShift C T) [] := by
  refine D.cal scbest_shift (fun _ _ _ _ _ _ us hl => match us, hl with | [_, _, _, _], _ => rfl) (fun vs H Q E h => ?_) (fun f A outer s H vs Q E hr h => ?_)
  · obtain ⟨p, b, n, es, a, na, fs, W, Pt, g, rfl, _⟩ := h
    rfl
  · obtain ⟨p, b, n, es, a, na, fs, W, Pt, g, rfl, hW, hA, lP, hN, gne, lg, hg, hS, hT, q⟩ := h
    obtain ⟨dx, ff, hp, _, f2, _⟩ := wf_of hW
    have fB : ndefB (defScope sbest_shift) (lamS lam2) ["score", "nodes"] = true := by decide +kernel
    refine ⟨_, (pss_cons (ps_setLc (i := 4) (own := [("node", 6)]) rfl scbest_shift.nd rfl rfl (sw_true rfl rfl rfl (by decide +kernel)) (piL K (pv 2)) (blkOk_by (N := Nbest_shift) (sc := defScope sbest_shift) (by decide +kernel)) (fun _ _ _ _ _ => (pg_name (i := 6) scbest_shift.nd rfl (Or.inl rfl))) (fun _ _ _ _ _ => pts_nil) (fun _ _ _ _ _ => (pe_op op_sub pe_int (pe_ix (ixL K) (pv 1) (pv 6) (fun _ _ => rfl)))))
  (pss_cons (ps_if (pt_cmpR op_gt (C8.pe_mt0 mm hr (by decide) (pv 0)) pe_int (nomark _))
  (pss_one ps_never)
  pss_nil)
  (pss_cons (ps_setLc (i := 5) (own := [("constant", 7)]) rfl scbest_shift.nd rfl rfl (sw_true rfl rfl rfl (by decide +kernel)) (piL K (pv 4)) (blkOk_by (N := Nbest_shift) (sc := defScope sbest_shift) (by decide +kernel)) (fun _ _ _ _ _ => (pg_name (i := 7) scbest_shift.nd rfl (Or.inl rfl))) (fun _ _ _ _ _ => pts_nil) (fun _ _ _ _ _ => (C8.pe_c csh hr (by decide) (by rfl) (pa_cons (pv 0) (pa_cons (pv 1) (pa_cons (pv 2) (pa_cons (pv 7) pa_nil)))))))
  (pss_one (ps_ret (pe_mink (mk := lamMk _ lam2) (b := lamB lam2) (js := [3, 2]) (fr := ["score", "nodes"]) (sp := fun _ _ => spKey C) (fun f c' => lok_key ct _ rfl rfl) (fun _ => rfl) (fun ok => Caps.made ok (ndef_free fB) (ndef_fr fB) rfl) hr (by decide) (by rfl) G.min (pa_cons (pv 5) pa_nil) (pk_cons (pe_lambS (e := lam2) lam2_eq TF.tb rfl TF.mem rfl TF.un rfl (ndef_free fB)) pk_nil))))))), ?_⟩
    refine ⟨_, rfl, na, rfl, ⟨_, SqL.of hN⟩, fun D1 hD1 => ?_⟩
    refine lc_fg nI (fun v => some (V.int (0 - Pt.getD v 0))) (SqL.of hN) hD1 (Nat.le_of_lt (small_lt (by omega))) (fun j v acc R N hv hy hno => ?_) ?_
    · have hvn := hg v (List.mem_of_getElem? hv)
      have s1 : Same H (upd H D1 (.lst acc)) := same_upd hD1
      exact ⟨rfl, _, rfl, _, rfl, a, _, _, _, rfl, rfl, SqL.of (s1 _ _ hA), atI_int (getD_at (i := v) (by omega)), _, _, rfl, rfl, hy _ rfl⟩
    rw [fm_some2 _ (fun v => V.int (0 - Pt.getD v 0)) (fun _ => rfl)]
    have e0 : g.map (fun v => V.int (0 - Pt.getD v 0)) = (g.map fun v => 0 - Pt.getD v 0).map V.int := by rw [List.map_map] <;> rfl
    rw [e0]
    obtain ⟨cs, ecs⟩ : ∃ cs, (g.map fun v => 0 - Pt.getD v 0) = cs := ⟨_, rfl⟩
    rw [ecs]
    have lcs : cs.length = g.length := by rw [← ecs, List.length_map]
    have s1 : Same H (upd H D1 (.lst (cs.map V.int))) := same_upd hD1
    have hD11 : upd H D1 (.lst (cs.map V.int)) D1 = some (.lst (cs.map V.int)) := upd_same
    generalize upd H D1 (.lst (cs.map V.int)) = H1 at s1 hD11 ⊢
    refine ⟨_, rfl, p, dx, ff, rfl, s1 _ _ hp, f2, p, n, es, rfl, hW.same s1, _, _, rfl, rfl, _, rfl, iteF ?_⟩
    refine ⟨_, rfl, D1, rfl, ⟨_, SqL.of hD11⟩, fun D2 hD2 => ?_⟩
    refine lc_new (ys := cs) (fun c => shF Pt g c) (IntsN D2) (SqL.of hD11) (ints_paired cs) hD2 (Nat.le_of_lt (small_lt (by rw [List.length_map]; omega))) (fun H2 H3 v z e ⟨t, h1, h2, h3⟩ => ⟨t, h1, h2, e _ _ h2 h3⟩) (fun i x cc H2 R N hx hj ej s2 hD22 hy => ?_) (fun H2 acc s2 hD22 hP2 => ?_)
    · subst ej
      obtain ⟨acc, hD22⟩ := hD22
      have s02 := Same.trans s1 s2
      exact ⟨rfl, _, rfl, _, rfl, _, rfl, _, rfl, p, n, es, a, na, Pt, g, cc, rfl, hW.same s02, s02 _ _ hA, lP, s02 _ _ hN, hg, fun l H3 hl s3 hL3 => hy (.ref l) H3 s3 ⟨l, rfl, (ne_of_none hD22 hl).symm, hL3⟩⟩
    have s02 := Same.trans s1 s2
    have lacc : acc.length = g.length := by rw [Paired.length hP2, List.length_map, lcs]
    have gpos : 0 < g.length := by
      cases g with
      | nil => exact absurd rfl gne
      | cons y r => exact Nat.succ_pos _
    refine ⟨_, rfl, hT.ext s02, fun kf c' H3 eN _ T3 f0 hkf hc' => ?_⟩
    have e03 : ExtN H H3 := (ExtN.of s02).trans eN
    have hP3 : Paired (IntsN D2 H3) acc (cs.map fun c => shF Pt g c) := Paired.mapP hP2 fun v x ⟨t, h1, h2, h3⟩ => ⟨t, h1, h2, (Nf.ext eN).lst h3⟩
    refine ⟨D2, kf, c', acc, fun i => (costN W (shF Pt g (cs.getD i 0)) g, (shF Pt g (cs.getD i 0)).getD (g.getD 0 0) 0), rfl, rfl, (Nf.ext eN).lst hD22, by omega, hkf, hc', fun i x H4 hx s4 => ?_, fun i x H4 hx s4 hle => ?_⟩
    · obtain ⟨L, hL, t, rfl, _, ht⟩ := Paired.at' hP3 hx
      have hi : i < cs.length := by
        rw [lcs, ← lacc]
        exact (List.getElem?_eq_some_iff.mp hx).1
      have eL : L = shF Pt g (cs.getD i 0) := by
        rw [List.getElem?_map, getD_at (ns := cs) (i := i) hi] at hL
        exact (Option.some.inj hL).symm
      subst eL
      have e04 : ExtN H H4 := e03.trans (ExtN.of s4)
      exact ⟨fs, p, b, n, es, t, na, W, shF Pt g (cs.getD i 0), g, rfl, rfl, hS.ext e04, s4 _ _ ht, by rw [shF_len, lP], (Nf.ext e04).lst hN, gne, lg, hg, fun tt H5 s5 htt => ⟨tt, rfl, s5, htt⟩⟩
    · obtain ⟨L, hL, t, rfl, _, ht⟩ := Paired.at' hP3 hx
      have hi : i < g.length := by
        rw [← lacc]
        exact (List.getElem?_eq_some_iff.mp hx).1
      have ec : ∀ j, j < g.length → cs.getD j 0 = 0 - Pt.getD (g.getD j 0) 0 := fun j hj => by
        rw [← ecs]
        simp [hj]
      have eL : L = shF Pt g (cs.getD i 0) := by
        rw [List.getElem?_map, getD_at (ns := cs) (i := i) (by omega)] at hL
        exact (Option.some.inj hL).symm
      rw [ec i hi] at eL
      have e04 : ExtN H H4 := e03.trans (ExtN.of s4)
      refine q t H4 (g.getD i 0) (List.mem_of_getElem? (getN_at hi)) (fun u' hu' => ?_) e04 (T3.ext s4) ?_
      · obtain ⟨j, hj⟩ := List.mem_iff_getElem?.mp hu'
        have hjl := (List.getElem?_eq_some_iff.mp hj).1
        have ej : g.getD j 0 = u' := by
          have := getN_at hjl
          rw [hj] at this
          exact (Option.some.inj this).symm
        have z := hle j (by omega)
        have z : costN W (shF Pt g (cs.getD i 0)) g ≤ costN W (shF Pt g (cs.getD j 0)) g := z
        rw [ec i hi, ec j hjl, ej] at z
        exact z
      · rw [← eL]
        exact s4 _ _ ht
end
end K29
namespace K29
/-! ### group by group -/
inductive Bests (W : List Int) : List (List Nat) → List Int → List Int → Prop where
  | nil (L : List Int) : Bests W [] L L
  | snoc {gs : List (List Nat)} {L F : List Int} {g : List Nat} {u : Nat} : Bests W gs L F → u ∈ g → (∀ u' ∈ g, costN W (shF F g (0 - F.getD u 0)) g ≤ costN W (shF F g (0 - F.getD u' 0)) g) → Bests W (gs ++ [g]) L (shF F g (0 - F.getD u 0))
theorem Bests.len {W : List Int} {gs : List (List Nat)} {L F : List Int} (h : Bests W gs L F) : F.length = L.length := by
  induction h with
  | nil => rfl
  | snoc _ _ _ ih => rw [shF_len, ih]
theorem Comps.glen {ls : List (List TripM)} {n : Nat} {gs : List (List Nat)} (h : Comps ls n gs) {g : List Nat} (hg : g ∈ gs) : g.length ≤ n := by
  have q := List.Nodup.length_le_of_subset (l₂ := List.range n) (h.nd g hg) (fun v hv => List.mem_range.mpr (h.lt g hg v hv))
  rw [List.length_range] at q
  exact q
theorem Comps.glen2 {ls : List (List TripM)} {n : Nat} {gs : List (List Nat)} (h : Comps ls n gs) : gs.length ≤ n := by
  have hd : ∀ g ∈ gs, g.getD 0 0 ∈ g := fun g hg => by
    have := h.ne g hg
    cases g with
    | nil => exact absurd rfl this
    | cons y r => exact List.mem_cons_self
  have nd : (gs.map fun g => g.getD 0 0).Nodup := by
    unfold List.Nodup
    rw [List.pairwise_map]
    refine List.Pairwise.imp_of_mem ?_ h.dis
    intro a b ha hb r e
    have := r _ (hd a ha)
    rw [e] at this
    exact this (hd b hb)
  have q := List.Nodup.length_le_of_subset (l₂ := List.range n) nd (fun v hv => by
    obtain ⟨g, hg, rfl⟩ := List.mem_map.mp hv
    exact List.mem_range.mpr (h.lt g hg _ (hd g hg)))
  rw [List.length_range, List.length_map] at q
  exact q
end K29
namespace K29
open PySem PySem.Spec PyProof.Rows L2 LamX NdefX
section
variable {P : Program} {w : World} {K : PySem.W.Frag} {mg : Str → Option Value} {base : Heap}
def spBestOf (K : PySem.W.Frag) (C CS : Addr) (T : List NTab) : Sp := fun vs H Q _ => ∃ (p sy fx fs b : Addr) (n : Nat) (es : List (Nat × Nat)) (rows : List RowM) (Pt : Nat → Int) (ls : List (List Trip)) (gs : List (List Nat)) (W : List Int), vs = [.ref p, .ref sy, .ref fx, .ref fs] ∧ WebAt C H p n es ∧ WebOk n es ∧ SysAt CS H sy rows ls gs ∧ SysOk n rows Pt ls gs ∧ SqT K H fx [] ∧ ScoreAt C H fs p b n es W ∧ TabsN T H ∧
  ∀ (t r : Addr) (H' : Hp) (L F : List Int), LevOk n gs Pt L → Bests W gs L F → ExtN H H' → TabsN T H' → H' t = some (.tup [.str "potential", .ref r, .int (costN W F (List.range n))]) → Q (.ref t) H'
theorem SqT.nf {K : PySem.W.Frag} {H H' : Hp} {a : Addr} {xs : List V} (h : SqT K H a xs) (e : ExtN H H') : SqT K H' a xs := by
  rcases h with (h | ⟨o, h⟩) | h
  · exact .inl (.inl (e _ _ h (fun _ z => by cases z)))
  · exact .inl (.inr ⟨o, e _ _ h (fun _ z => by cases z)⟩)
  · exact .inr h
theorem SysAt.ins {C : Addr} {H : Hp} {p : Addr} {rows : List RowM} {ls : List (List Trip)} {gs : List (List Nat)} (h : SysAt C H p rows ls gs) : ∃ dx fs, H p = some (.ins C dx fs) ∧ fs.lookup ("solved" : Str) = none ∧ fs.lookup ("free_groups" : Str) = none := by
  obtain ⟨dx, ra, la, ga, hp, _⟩ := h
  exact ⟨dx, _, hp, sysF_solved _ _ _, sysF_free _ _ _⟩
theorem cal_bestof {C CS : Addr} {T : List NTab} (G : Bn mg) (ct : C8.Cal P w K mg base 4 "total_cost" (spTotal C) []) (mso : C8.Met P w K mg base 4 CS "solved" (spSolved K CS) []) (mfr : C8.Met P w K mg base 1 CS "free_groups" (spFree K CS) []) (cb : C8.Cal P w K mg base 8 "best_shift" (spBShift C T) []) (ms : C8.Met P w K mg base 1 C "size" (spWS C) [])
    (D : DefAt K mg "best_of" sbest_of) : C8.Cal P w K mg base 9 "best_of" (spBestOf K C CS T) [] := by
  refine D.cal scbest_of (fun _ _ _ _ _ _ us hl => match us, hl with | [_, _, _, _], _ => rfl) (fun vs H Q E h => ?_) (fun f cdv A outer s H vs Q E hr h => ?_)
  · obtain ⟨p, sy, fx, fs, b, n, es, rows, Pt, ls, gs, W, rfl, _⟩ := h
    rfl
  · obtain ⟨p, sy, fx, fs, b, n, es, rows, Pt, ls, gs, W, rfl, hW, ok, hSy, sok, hX, hS, hT, q⟩ := h
    have FF := fok_score (P := P) (w := w) (K := K) (mg := mg) (base := base) ct
    obtain ⟨dx, ff, hp, f1, _⟩ := wf_of hW
    obtain ⟨sdx, sf, hsp, sf1, sf2⟩ := hSy.ins
    have n12 := ok.n12
    refine ⟨_, (pss_cons (ps_set (i := 4) scbest_of.nd rfl (Or.inl rfl) (C8.pe_mt mso hr (by decide) (pv 1) (pa_cons (pv 2) pa_nil)))
  (pss_cons (ps_if (pt_cmpR op_ne (pe_ix (ixT K) (pv 4) pe_int (fun _ _ => rfl)) pe_str (nomark _))
  (pss_one ps_never)
  pss_nil)
  (pss_cons (ps_set (i := 5) scbest_of.nd rfl (Or.inl rfl) (pe_ix (ixT K) (pv 4) pe_int (fun _ _ => rfl)))
  (pss_cons (ps_for PassesOwn.never rfl (piL K (C8.pe_mt mfr hr (by decide) (pv 1) (pa_cons (pv 2) pa_nil))) (pg_name (i := 6) scbest_of.nd rfl (Or.inl rfl))
  (pss_one (ps_set (i := 5) scbest_of.nd rfl (Or.inl rfl) (C8.pe_c cb hr (by decide) (by rfl) (pa_cons (pv 0) (pa_cons (pv 5) (pa_cons (pv 6) (pa_cons (pv 3) pa_nil))))))))
  (pss_one (ps_ret (pe_tup (pa_cons pe_str (pa_cons (pv 5) (pa_cons (pe_callF (i := 3) FF hr (by decide) rfl (Or.inl rfl) (pa_cons (pv 5) (pa_cons (pe_listRg rfl (by rfl) G.list (prg_1 (by rfl) G.range (C8.pe_mt0 ms hr (by decide) (pv 0)))) pa_nil))) pa_nil)))))))))), ?_⟩
    refine ⟨_, rfl, sy, sdx, sf, rfl, hsp, sf1, _, rfl, sy, fx, n, rows, Pt, ls, gs, rfl, hSy, sok, hX, fun t l H1 L ht hl s1 ht1 hL1 lv => ?_⟩
    refine ⟨_, rfl, t, _, _, _, rfl, rfl, SqT.of ht1, atI_nat (j := 0) rfl, rfl, _, rfl, ?_⟩
    rw [show (!decide (V.str "potential" = V.str "potential")) = false by simp]
    refine iteF ?_
    refine ⟨_, rfl, t, _, _, _, rfl, rfl, SqT.of ht1, atI_nat (j := 1) rfl, ?_⟩
    refine ⟨_, rfl, sy, sdx, sf, rfl, s1 _ _ hsp, sf2, _, rfl, sy, fx, rows, ls, gs, rfl, hSy.same s1, Same.tup s1 hX, Nat.le_trans sok.co.glen2 n12, fun g hg => Nat.le_trans (sok.co.glen hg) n12, fun lg H2 hlg s2 hG2 => ?_⟩
    obtain ⟨gv, hgv, hGG⟩ := hG2
    have s02 := Same.trans s1 s2
    refine ⟨lg, rfl, ⟨_, SqL.of hgv⟩, for_list (K := K) (a := lg) (xs := gv) (fun i σ H3 => ∃ (fo : Addr) (F : List Int) (o6 : Option V), σ = [some (.ref p), some (.ref sy), some (.ref fx), some (.ref fs), some (.ref t), some (.ref fo), o6] ∧ ExtN H2 H3 ∧ TabsN T H3 ∧ IntsAt H3 fo F ∧ Bests W (gs.take i) L F)
      ⟨l, L, none, rfl, ExtN.refl _, hT.ext s02, s2 _ _ hL1, by rw [List.take_zero]; exact .nil L⟩ (fun i σ H3 _ hI => ?_) ?_ ?_⟩
    · obtain ⟨_, _, _, _, e3, _⟩ := hI
      exact SqL.of ((Nf.ext e3).lst hgv)
    · rintro i x σ H3 hx ⟨fo, F, o6, rfl, e3, T3, hF3, hB⟩
      obtain ⟨g, hg, bb, rfl, hb⟩ := Paired.at' hGG hx
      have gm : g ∈ gs := List.mem_of_getElem? hg
      have e03 : ExtN H H3 := (ExtN.of s02).trans e3
      have lF : F.length = n := by rw [hB.len, lv.len]
      refine ⟨_, rfl, _, rfl, _, rfl, _, rfl, p, b, n, es, fo, bb, fs, W, F, g, rfl, hW.nf (Nf.ext e03), hF3, lF, (Nf.ext e3).lst hb, sok.co.ne g gm, Nat.le_trans (sok.co.glen gm) n12, sok.co.lt g gm, hS.ext e03, T3, fun r H4 u hu hle e4 T4 hr4 => ?_⟩
      refine ⟨r, _, _, rfl, e3.trans e4, T4, hr4, ?_⟩
      rw [List.take_add_one, hg]
      exact .snoc hB hu hle
    · rintro σ H3 ⟨fo, F, o6, rfl, e3, T3, hF3, hB⟩
      rw [Paired.length hGG, List.take_length] at hB
      have e03 : ExtN H H3 := (ExtN.of s02).trans e3
      have lF : F.length = n := by rw [hB.len, lv.len]
      obtain ⟨FN, h1, h2, h3, _⟩ := id (hS.ext e03)
      refine ⟨_, rfl, fs, FN, _, rfl, h3, _, rfl, _, rfl, p, dx, ff, rfl, (Nf.ext e03).ins hp, f1, p, n, es, rfl, hW.nf (Nf.ext e03), _, rfl, .of_le (by decide) (by omega) (by decide) (by omega), fun N hN => ?_⟩
      rw [rgV_nodes]
      have s4 : Same H3 (upd H3 N (.lst ((List.range n).map nI))) := same_upd hN
      refine ⟨p, b, n, es, fo, N, W, F, List.range n, hS.ext (e03.trans (ExtN.of s4)), rfl, s4 _ _ hF3, lF, upd_same, by rw [List.length_range]; exact n12, fun v hv => List.mem_range.mp hv, fun H5 s5 => ?_⟩
      refine ⟨(by show 3 ≤ sizeLine; decide), fun tt htt => ?_⟩
      have s6 : Same H5 (upd H5 tt (.tup [.str "potential", .ref fo, .int (costN W F (List.range n))])) := same_upd htt
      exact q tt fo _ L F lv hB (e03.trans (ExtN.of (Same.trans s4 (Same.trans s5 s6)))) ((T3.ext (Same.trans s4 s5)).ext s6) upd_same
end
end K29
namespace K29
open PySem PySem.Spec PyProof.Rows L2 LamX NdefX
/-- the cost that cheapest tells -/
def BestM (n : Nat) (es : List (Nat × Nat)) (Pt W : List Int) (M : Int) : Prop := ∃ (gs : List (List Nat)) (L F : List Int), Comps (linksN n es (forestN n es)) n gs ∧ LevOk n gs (fun v => Pt.getD v 0) L ∧ Bests W gs L F ∧ M = costN W F (List.range n)
theorem sysOk_sw {n : Nat} {es : List (Nat × Nat)} {L Pt : List Int} {gs : List (List Nat)} (ok : WebOk n es) (co : Comps (linksN n es (forestN n es)) n gs) : SysOk n (rowsN es L (swN L es Pt)) (fun v => Pt.getD v 0) (linksN n es (forestN n es)) gs := by
  have q := sysOk_of (n := n) (rows := rowsN es L (swN L es Pt)) (P := fun v => Pt.getD v 0) (gs := gs) ok.n12 (by rw [rowsN_len]; exact ok.l18) (fun r hr => ?_) (fun r hr => ?_) (by rw [rowsN_es]; exact co)
  · rw [rowsN_es] at q
    exact q
  · obtain ⟨i, hi, rfl⟩ := List.mem_map.mp hr
    exact ok.lt _ (edN_mem (List.mem_range.mp hi))
  · obtain ⟨i, hi, rfl⟩ := List.mem_map.mp hr
    show (swN L es Pt).getD i 0 - L.getD i 0 = Pt.getD (edN es i).1 0 - Pt.getD (edN es i).2 0
    rw [swN_at (List.mem_range.mp hi)]
    omega
theorem untTabs {T : List NTab} {H : Hp} {cl : List (Str × Addr)} {fr : List Str} {ws : List V} (C : CelH H cl fr ws) (h : TabsN T H) : TabsN T (unt cl H) := fun p hp => by
  obtain ⟨ps, h1, h2, h3⟩ := h p hp
  refine ⟨ps, ?_, h2, fun pos cv hc => ?_⟩
  · rw [unt_not (C.nc h1 fun _ _ z => by cases z)]
    exact h1
  · obtain ⟨c, e, hco⟩ := h3 pos cv hc
    refine ⟨c, e, ?_⟩
    rw [unt_not (C.nc hco fun _ _ z => by cases z)]
    exact hco
section
variable {P : Program} {w : World} {K : PySem.W.Frag} {mg : Str → Option Value} {base : Heap}
def spCheap (K : PySem.W.Frag) (C : Addr) (T : List NTab) : Sp := fun vs H Q _ => ∃ (p a b wa fx : Addr) (n : Nat) (es : List (Nat × Nat)) (L Pt W : List Int), vs = [.ref p, .ref a, .ref b, .ref wa, .ref fx] ∧ WebAt C H p n es ∧ WebOk n es ∧ IntsAt H a L ∧ L.length = es.length ∧ IntsAt H b (swN L es Pt) ∧ Pt.length = n ∧ IntsAt H wa W ∧ WtOk n W ∧ SqT K H fx [] ∧ TabsN T H ∧
  ∀ (t r : Addr) (H' : Hp) (M : Int), BestM n es Pt W M → ExtN H H' → TabsN T H' → H' t = some (.tup [.str "potential", .ref r, .int M]) → Q (.ref t) H'
theorem cal_cheap {C CS c Pc : Addr} {T : List NTab} {fx0 : V} (TF : TabF base mg T c Pc qualC) (cg : C8.Cal P w K mg base 6 "check_gains" (spChkG C) []) (cw : C8.Cal P w K mg base 2 "checked_weights" (spCW C) []) (cf : C8.Cal P w K mg base 3 "check_fixed" (spChkF K C) []) (cso : C8.Cal P w K mg base 5 "system_of" (spSysOf C CS) [])
    (cb : C8.Cal P w K mg base 9 "best_of" (spBestOf K C CS T) []) (D : DefKwC K mg "cheapest" scheapest [("weights", .non), ("fixed", fx0)] c) : CalK P w K mg base 10 "cheapest" (spCheap K C T) 3 ["weights", "fixed"] (fun vs zs => vs ++ zs) := by
  refine D.cal (ps := ["web", "before", "after", "weights", "fixed"]) sccheapest 3 ["weights", "fixed"] [] (fun vs mz zs => vs ++ zs) (by simp) (by simp) (fun r1 _ r3 => r1.append r3) (fun D doc pm an cdv ct us mv ws h1 h2 h3 => match us, mv, ws, h1, h2, h3 with
    | [_, _, _], [], [_, _], _, _, _ => rfl) (fun vs H Q E h => ?_) (fun f A outer s H vs Q E hr h => ?_)
  · obtain ⟨p, a, b, wa, fx, n, es, L, Pt, W, rfl, _⟩ := h
    rfl
  · obtain ⟨p, a, b, wa, fx, n, es, L, Pt, W, rfl, hW, ok, hA, lL, hB, lP, hWt, wt, hX, hT, q⟩ := h
    have fB : ndefB (defScope scheapest) (lamS lam1) ["web", "weights"] = true := by decide +kernel
    refine ⟨_, (pss_cons (ps_expr (C8.pe_c cg hr (by decide) (by rfl) (pa_cons (pv 0) (pa_cons (pv 1) pa_nil))))
  (pss_cons (ps_expr (C8.pe_c cg hr (by decide) (by rfl) (pa_cons (pv 0) (pa_cons (pv 2) pa_nil))))
  (pss_cons (ps_set (i := 3) sccheapest.nd rfl (Or.inr rfl) (C8.pe_c cw hr (by decide) (by rfl) (pa_cons (pv 0) (pa_cons (pv 3) pa_nil))))
  (pss_cons (ps_expr (C8.pe_c cf hr (by decide) (by rfl) (pa_cons (pv 0) (pa_cons (pv 4) pa_nil))))
  (pss_cons (ps_set (i := 5) sccheapest.nd rfl (Or.inl rfl) (C8.pe_c cso hr (by decide) (by rfl) (pa_cons (pv 0) (pa_cons (pv 1) (pa_cons (pv 2) pa_nil)))))
  (pss_one (ps_ret (pe_cc (fr := ["web", "weights"]) (js := [0, 3]) cb (fun ok => Caps.made ok (ndef_free fB) (ndef_fr fB) rfl) (fun _ => rfl) hr (by decide) (by rfl) (pa_cons (pv 0) (pa_cons (pv 5) (pa_cons (pv 4) (pa_cons (pe_lambS (e := lam1) lam1_eq TF.tb rfl TF.mem rfl TF.un rfl (ndef_free fB)) pa_nil)))))))))))), ?_⟩
    refine ⟨_, rfl, _, rfl, p, n, es, a, L, rfl, hW, ok, hA, lL, fun H1 s1 => ?_⟩
    refine ⟨_, rfl, _, rfl, p, n, es, b, swN L es Pt, rfl, hW.same s1, ok, s1 _ _ hB, swN_len _ _ _, fun H2 s2 => ?_⟩
    have s02 := Same.trans s1 s2
    refine ⟨_, rfl, _, rfl, p, n, es, wa, W, rfl, hW.same s02, ok, s02 _ _ hWt, wt, fun l H3 hl s3 hL3 => ?_⟩
    have s03 := Same.trans s02 s3
    refine ⟨_, rfl, _, rfl, p, fx, n, es, rfl, hW.same s03, Same.tup s03 hX, fun H4 s4 => ?_⟩
    have s04 := Same.trans s03 s4
    refine ⟨_, rfl, _, rfl, _, rfl, p, n, es, a, b, L, swN L es Pt, rfl, hW.same s04, ok, s04 _ _ hA, lL, s04 _ _ hB, swN_len _ _ _, fun sy H5 gs hsy s5 hSy co => ?_⟩
    have s05 := Same.trans s04 s5
    have hL5 : IntsAt H5 l W := s5 _ _ (s4 _ _ hL3)
    refine ⟨_, rfl, _, rfl, _, rfl, hT.ext s05, fun fl c' H6 e6 _ T6 f0 hfl hc' => ?_⟩
    have e06 : ExtN H H6 := (ExtN.of s05).trans e6
    refine ⟨[.ref p, .ref l], rfl, fun H7 s7 CC notc => ?_⟩
    have e57 : ExtN H5 H7 := e6.trans (ExtN.of s7)
    have e07 : ExtN H H7 := e06.trans (ExtN.of s7)
    have hW7 := hW.nf (Nf.ext e07)
    have hSy7 : SysAt CS H7 sy (rowsN es L (swN L es Pt)) (linksN n es (forestN n es)) gs := by
      obtain ⟨dx, ra, la, ga, g1, ⟨rv, r1, r2⟩, ⟨As, l1, l2⟩, g4⟩ := hSy
      have nf := Nf.ext e57
      exact ⟨dx, ra, la, ga, nf.ins g1, ⟨rv, nf.lst r1, Paired.mapP r2 fun v x => RowR.mono nf.tups⟩, ⟨As, nf.lst l1, Paired.mapP l2 fun a l ⟨vs, q1, q2⟩ => ⟨vs, nf.lst q1, Paired.mapP q2 fun v x => TripR.mono nf.tups⟩⟩, GroupsAt.nf g4 nf⟩
    refine ⟨p, sy, fx, fl, l, n, es, rowsN es L (swN L es Pt), (fun v => Pt.getD v 0), linksN n es (forestN n es), gs, W, rfl, hW7, ok, hSy7, sysOk_sw ok co, SqT.nf hX e07, ⟨lamMk _ lam1 c', rfl, rfl, s7 _ _ hfl, s7 _ _ hc', CC, hW7, (Nf.ext e57).lst hL5, wt⟩, T6.ext s7, fun t r H8 LL F lv hBs e8 T8 ht8 => ?_⟩
    have C8' := CC.ext e8
    refine q t r _ _ ⟨gs, LL, F, co, lv, hBs, rfl⟩ (fun bb o h1 h2 => ?_) (untTabs C8' T8) ?_
    · have h6 := e06 _ _ h1 h2
      rw [unt_not (notc _ _ h6)]
      exact e8 _ _ (s7 _ _ h6) h2
    · rw [unt_not (C8'.nc ht8 fun _ _ z => by cases z)]
      exact ht8
def spIsCh (K : PySem.W.Frag) (C : Addr) (T : List NTab) : Sp := fun vs H Q _ => ∃ (p a b th wa fx pa : Addr) (n : Nat) (es : List (Nat × Nat)) (L Pt W : List Int), vs = [.ref p, .ref a, .ref b, .ref th, .ref wa, .ref fx] ∧ WebAt C H p n es ∧ WebOk n es ∧ IntsAt H a L ∧ L.length = es.length ∧ IntsAt H b (swN L es Pt) ∧ Pt.length = n ∧ IntsAt H wa W ∧ WtOk n W ∧ SqT K H fx [] ∧ TabsN T H ∧
  H th = some (.tup [.str "potential", .ref pa, .int (costN W Pt (List.range n))]) ∧ IntsAt H pa Pt ∧
  ∀ (H' : Hp) (M : Int), BestM n es Pt W M → ExtN H H' → TabsN T H' → Q (.bl (decide (costN W Pt (List.range n) = M))) H'
theorem cal_isch {C : Addr} {T : List NTab} {fx : V} (G : Bn mg) (ci : C8.Cal P w K mg base 1 "is_integer" spIsInt []) (cch : CalK P w K mg base 10 "cheapest" (spCheap K C T) 3 ["weights", "fixed"] (fun vs zs => vs ++ zs)) (cl : C8.Cal P w K mg base 8 "leads" (spLeads K C) []) (cc : CalK P w K mg base 7 "cost" (spCost C) 2 ["weights"] (fun vs zs => vs ++ zs))
    (D : DefKw K mg "is_cheapest" sis_cheapest [("weights", .non), ("fixed", fx)]) : CalK P w K mg base 11 "is_cheapest" (spIsCh K C T) 4 ["weights"] (fun vs zs => vs ++ (zs ++ [fx])) := by
  refine D.cal (ps := ["web", "before", "after", "thing", "weights", "fixed"]) scis_cheapest 4 ["weights"] [("fixed", fx)] (fun vs mz zs => vs ++ (zs ++ mz)) (by simp) (by simp) (fun r1 r2 r3 => r1.append (r3.append r2)) (fun D doc pm an cdv ct us mv ws h1 h2 h3 => match us, mv, ws, h1, h2, h3 with
    | [_, _, _, _], [_], [_], _, _, _ => ⟨_, _, _, _, _, _, rfl, rfl, rfl⟩) (fun vs H Q E h => ?_) (fun f cdv A outer s H vs Q E hr h => ?_)
  · obtain ⟨p, a, b, th, wa, fx, pa, n, es, L, Pt, W, rfl, _⟩ := h
    rfl
  · obtain ⟨p, a, b, th, wa, fx, pa, n, es, L, Pt, W, rfl, hW, ok, hA, lL, hB, lP, hWt, wt, hX, hT, hth, hpa, q⟩ := h
    refine ⟨_, (pss_cons (ps_set (i := 6) scis_cheapest.nd rfl (Or.inl rfl) (pe_ck cch hr (by decide) (by rfl) (pa_cons (pv 0) (pa_cons (pv 1) (pa_cons (pv 2) pa_nil))) (pk_cons (pv 4) (pk_cons (pv 5) pk_nil))))
  (pss_cons (ps_if (PW.pt (pw_or (pt_not (pt_val (pe_callB (cIsi K) (by rfl) G.isinstance (by decide +kernel) (pa_cons (pv 3) (pa_cons (pe_bltn (v := .ty "tuple") (by rfl) G.tuple (by decide +kernel) rfl) pa_nil))))) (pw_or (pt_cmpR op_ne (pe_callB (cLen K) (by rfl) G.len (by decide +kernel) (pa_cons (pv 3) pa_nil)) pe_int (nomark _)) (pw_or1 (pt_not (pt_val (pe_callB (cIsi K) (by rfl) G.isinstance (by decide +kernel) (pa_cons (pe_ix (ixT K) (pv 3) pe_int (fun _ _ => rfl)) (pa_cons (pe_bltn (v := .ty "str") (by rfl) G.str (by decide +kernel) rfl) pa_nil)))))))))
  (pss_one ps_never)
  pss_nil)
  (pss_cons (ps_if (PW.pt (pw_or (pt_cmpR op_ne (pe_ix (ixT K) (pv 3) pe_int (fun _ _ => rfl)) pe_str (nomark _)) (pw_or (pt_cmpR op_ne (pe_ix (ixT K) (pv 6) pe_int (fun _ _ => rfl)) pe_str (nomark _)) (pw_or1 (pt_not (pt_val (C8.pe_c ci hr (by decide) (by rfl) (pa_cons (pe_ix (ixT K) (pv 3) pe_int (fun _ _ => rfl)) pa_nil))))))))
  (pss_one ps_never)
  pss_nil)
  (pss_cons (ps_if (pt_not (pt_val (C8.pe_c cl hr (by decide) (by rfl) (pa_cons (pv 0) (pa_cons (pv 1) (pa_cons (pv 2) (pa_cons (pe_ix (ixT K) (pv 3) pe_int (fun _ _ => rfl)) (pa_cons (pv 5) pa_nil))))))))
  (pss_one ps_never)
  pss_nil)
  (pss_one (ps_ret (pe_chain op_eq op_eq (pe_ix (ixT K) (pv 3) pe_int (fun _ _ => rfl)) (pe_ix (ixT K) (pv 6) pe_int (fun _ _ => rfl)) (pe_ck cc hr (by decide) (by rfl) (pa_cons (pv 0) (pa_cons (pe_ix (ixT K) (pv 3) pe_int (fun _ _ => rfl)) pa_nil)) (pk_cons (pv 4) pk_nil))))))))), ?_⟩
    refine ⟨_, rfl, _, rfl, _, rfl, _, rfl, _, rfl, rfl, rfl, p, a, b, wa, fx, n, es, L, Pt, W, rfl, hW, ok, hA, lL, hB, lP, hWt, wt, hX, hT, fun t r H1 M bM e1 T1 ht => ?_⟩
    have nf := Nf.ext e1
    have hth1 := nf.tups _ _ hth
    refine ⟨_, rfl, _, _, _, _, true, rfl, .ty _, .base (.tup hth1), kit_ty (by decide +kernel), _, rfl, ?_⟩
    show if (!true) = true then _ else _
    refine iteF ?_
    refine ⟨_, rfl, _, _, rfl, .inr (SqT.of hth1), rfl, _, rfl, ?_⟩
    rw [show (!decide (V.int (([V.str "potential", V.ref pa, V.int (costN W Pt (List.range n))] : List V).length : Int) = V.int 3)) = false by simp]
    refine iteF ?_
    refine ⟨_, rfl, th, _, _, _, rfl, rfl, SqT.of hth1, atI_nat (j := 0) rfl, _, _, _, _, true, rfl, .ty _, .base (.str _), kit_ty (by decide +kernel), _, rfl, ?_⟩
    show if (!true) = true then _ else _
    refine iteF ?_
    have fz : (!decide (V.str "potential" = V.str "potential")) = false := by simp
    refine ⟨_, rfl, th, _, _, _, rfl, rfl, SqT.of hth1, atI_nat (j := 0) rfl, rfl, _, rfl, ?_⟩
    rw [fz]
    refine iteF ?_
    refine ⟨_, rfl, t, _, _, _, rfl, rfl, SqT.of ht, atI_nat (j := 0) rfl, rfl, _, rfl, ?_⟩
    rw [fz]
    refine iteF ?_
    refine ⟨_, rfl, th, _, _, _, rfl, rfl, SqT.of hth1, atI_nat (j := 2) rfl, _, rfl, _, rfl, ?_⟩
    show if (!true) = true then _ else _
    refine iteF ?_
    refine ⟨_, rfl, _, rfl, _, rfl, _, rfl, th, _, _, _, rfl, rfl, SqT.of hth1, atI_nat (j := 1) rfl, _, rfl, p, n, es, a, b, pa, fx, L, Pt, rfl, hW.nf nf, ok, nf.lst hA, lL, nf.lst hB, nf.lst hpa, lP, SqT.nf hX e1, fun H2 s2 => ⟨_, rfl, iteF ?_⟩⟩
    have nf2 := nf.trans (Nf.of s2)
    have e02 := e1.trans (ExtN.of s2)
    have hth2 := s2 _ _ hth1
    refine ⟨_, rfl, th, _, _, _, rfl, rfl, SqT.of hth2, atI_nat (j := 2) rfl, _, rfl, t, _, _, _, rfl, rfl, SqT.of (s2 _ _ ht), atI_nat (j := 2) rfl, rfl, _, rfl, ?_⟩
    have de : ∀ i j : Int, decide (V.int i = V.int j) = decide (i = j) := fun i j => by
      by_cases h : i = j
      · rw [h]
        simp
      · rw [decide_eq_false h, decide_eq_false (fun z => h (V.int.inj z))]
    rw [de]
    refine ite2 (fun e => ?_) (fun e => ?_)
    · refine ⟨_, rfl, _, rfl, th, _, _, _, rfl, rfl, SqT.of hth2, atI_nat (j := 1) rfl, _, rfl, rfl, rfl, p, n, es, pa, wa, W, Pt, rfl, hW.nf nf2, ok, nf2.lst hpa, lP, nf2.lst hWt, wt, fun H3 s3 => ⟨rfl, ?_⟩⟩
      have e1 : costN W Pt (List.range n) = M := of_decide_eq_true e
      have z := q H3 M bM (e02.trans (ExtN.of s3)) ((T1.ext s2).ext s3)
      rw [de]
      rw [show decide (costN W Pt (List.range n) = M) = true from e] at z
      rw [show decide (M = costN W Pt (List.range n)) = true from decide_eq_true e1.symm]
      exact z
    · have z := q H2 M bM e02 (T1.ext s2)
      rw [Bool.eq_false_iff.mpr e] at z
      exact z
end
end K29
namespace K29
/-! ### sums -/
theorem sum_perm {f : Nat → Int} {l1 l2 : List Nat} (h : l1.Perm l2) : (l1.map f).sum = (l2.map f).sum := by
  induction h with
  | nil => rfl
  | cons x _ ih =>
    rw [List.map_cons, List.map_cons, List.sum_cons, List.sum_cons, ih]
  | swap x y l =>
    rw [List.map_cons, List.map_cons, List.map_cons, List.map_cons, List.sum_cons, List.sum_cons, List.sum_cons, List.sum_cons]
    omega
  | trans _ _ h1 h2 => rw [h1, h2]
theorem sum_flat (f : Nat → Int) : ∀ gs : List (List Nat), (gs.flatten.map f).sum = (gs.map fun g => (g.map f).sum).sum
  | [] => rfl
  | g :: r => by
    rw [List.flatten_cons, List.map_append, List.sum_append, sum_flat f r, List.map_cons, List.sum_cons]
theorem sum_le {α : Type} {a b : α → Int} : ∀ {gs : List α}, (∀ g ∈ gs, a g ≤ b g) → (gs.map a).sum ≤ (gs.map b).sum
  | [], _ => Int.le_refl _
  | g :: r, h => by
    rw [List.map_cons, List.map_cons, List.sum_cons, List.sum_cons]
    have h1 := h g List.mem_cons_self
    have h2 := sum_le (gs := r) (fun x hx => h x (List.mem_cons_of_mem _ hx))
    omega
theorem sum_eq_iff {α : Type} {a b : α → Int} : ∀ {gs : List α}, (∀ g ∈ gs, a g ≤ b g) → ((gs.map b).sum = (gs.map a).sum ↔ ∀ g ∈ gs, a g = b g)
  | [], _ => by simp
  | g :: r, h => by
    rw [List.map_cons, List.map_cons, List.sum_cons, List.sum_cons]
    have h1 := h g List.mem_cons_self
    have h3 : ∀ x ∈ r, a x ≤ b x := fun x hx => h x (List.mem_cons_of_mem _ hx)
    have h2 := sum_le h3
    have ih := sum_eq_iff (gs := r) h3
    constructor
    · intro e x hx
      have e1 : (r.map b).sum = (r.map a).sum := by omega
      rcases List.mem_cons.mp hx with z | z
      · subst z
        omega
      · exact ih.mp e1 x z
    · intro e
      have e1 := ih.mpr (fun x hx => e x (List.mem_cons_of_mem _ hx))
      have e2 := e g List.mem_cons_self
      omega
/-! ### one group: the weighted middle -/
def Sw (w : Nat → Int) (g : List Nat) : Int := (g.map w).sum
def Aw (w p : Nat → Int) (g : List Nat) : Int := (g.map fun v => if 0 < p v then w v else 0).sum
def Cs (w p : Nat → Int) (g : List Nat) (c : Int) : Int := (g.map fun v => w v * absI (p v - c)).sum
theorem absI_neg (i : Int) : absI (-i) = absI i := by
  unfold absI
  split <;> split <;> omega
theorem Cs_neg (w p : Nat → Int) (g : List Nat) (c : Int) : Cs w (fun v => - p v) g (-c) = Cs w p g c := by
  unfold Cs
  refine congrArg List.sum (List.map_congr_left fun v _ => ?_)
  rw [show -p v - -c = -(p v - c) by omega, absI_neg]
theorem Cs_cons (w p : Nat → Int) (v : Nat) (g : List Nat) (c : Int) : Cs w p (v :: g) c = w v * absI (p v - c) + Cs w p g c := by
  unfold Cs
  rw [List.map_cons, List.sum_cons]
theorem Sw_cons (w : Nat → Int) (v : Nat) (g : List Nat) : Sw w (v :: g) = w v + Sw w g := by
  unfold Sw
  rw [List.map_cons, List.sum_cons]
theorem Aw_cons (w p : Nat → Int) (v : Nat) (g : List Nat) : Aw w p (v :: g) = (if 0 < p v then w v else 0) + Aw w p g := by
  unfold Aw
  rw [List.map_cons, List.sum_cons]
/-- moved up by c: at least this much dearer -/
theorem Cs_up {w p : Nat → Int} {c : Int} (hc : 0 < c) : ∀ {g : List Nat}, (∀ v ∈ g, 0 ≤ w v) → Cs w p g 0 + c * (Sw w g - 2 * Aw w p g) ≤ Cs w p g c
  | [], _ => by simp [Cs, Sw, Aw]
  | v :: g, hw => by
    have ih := Cs_up hc (w := w) (p := p) (g := g) (fun x hx => hw x (List.mem_cons_of_mem _ hx))
    have wv := hw v List.mem_cons_self
    rw [Cs_cons, Cs_cons, Sw_cons, Aw_cons]
    rw [Int.mul_sub] at ih ⊢
    rw [Int.mul_add, show c * (2 * ((if 0 < p v then w v else 0) + Aw w p g)) = 2 * (c * (if 0 < p v then w v else 0)) + c * (2 * Aw w p g) by rw [Int.mul_add, Int.mul_add, ← Int.mul_assoc, ← Int.mul_assoc, Int.mul_comm c 2, Int.mul_assoc]]
    by_cases h : 0 < p v
    · rw [if_pos h]
      have e1 : absI (p v - 0) - c ≤ absI (p v - c) := by
        unfold absI
        split <;> split <;> omega
      have e2 := Int.mul_le_mul_of_nonneg_left e1 wv
      rw [Int.mul_sub, Int.mul_comm (w v) c] at e2
      omega
    · rw [if_neg h, Int.mul_zero]
      have e1 : absI (p v - c) = absI (p v - 0) + c := by
        unfold absI
        split <;> split <;> omega
      rw [e1, Int.mul_add, Int.mul_comm (w v) c]
      omega
/-- .. just so much where no node lies between -/
theorem Cs_up_eq {w p : Nat → Int} {c : Int} (hc : 0 < c) : ∀ {g : List Nat}, (∀ v ∈ g, 0 < p v → c ≤ p v) → Cs w p g c = Cs w p g 0 + c * (Sw w g - 2 * Aw w p g)
  | [], _ => by simp [Cs, Sw, Aw]
  | v :: g, hp => by
    have ih := Cs_up_eq hc (w := w) (p := p) (g := g) (fun x hx => hp x (List.mem_cons_of_mem _ hx))
    rw [Cs_cons, Cs_cons, Sw_cons, Aw_cons]
    rw [Int.mul_sub] at ih ⊢
    rw [Int.mul_add, show c * (2 * ((if 0 < p v then w v else 0) + Aw w p g)) = 2 * (c * (if 0 < p v then w v else 0)) + c * (2 * Aw w p g) by rw [Int.mul_add, Int.mul_add, ← Int.mul_assoc, ← Int.mul_assoc, Int.mul_comm c 2, Int.mul_assoc]]
    by_cases h : 0 < p v
    · rw [if_pos h]
      have hv := hp v List.mem_cons_self h
      have e1 : absI (p v - c) = absI (p v - 0) - c := by
        unfold absI
        split <;> split <;> omega
      rw [e1, Int.mul_sub, Int.mul_comm (w v) c]
      omega
    · rw [if_neg h, Int.mul_zero]
      have e1 : absI (p v - c) = absI (p v - 0) + c := by
        unfold absI
        split <;> split <;> omega
      rw [e1, Int.mul_add, Int.mul_comm (w v) c]
      omega
theorem Aw_pos {w p : Nat → Int} : ∀ {g : List Nat}, 0 < Aw w p g → ∃ v ∈ g, 0 < p v
  | [], h => by simp [Aw] at h
  | v :: g, h => by
    by_cases q : 0 < p v
    · exact ⟨v, List.mem_cons_self, q⟩
    · rw [Aw_cons, if_neg q] at h
      obtain ⟨u, hu, z⟩ := Aw_pos (w := w) (p := p) (g := g) (by omega)
      exact ⟨u, List.mem_cons_of_mem _ hu, z⟩
/-- the least node above 0 -/
theorem least_pos {p : Nat → Int} : ∀ {g : List Nat}, (∃ v ∈ g, 0 < p v) → ∃ u ∈ g, 0 < p u ∧ ∀ v ∈ g, 0 < p v → p u ≤ p v
  | [], h => by
    obtain ⟨v, hv, _⟩ := h
    cases hv
  | x :: g, h => by
    by_cases q : ∃ v ∈ g, 0 < p v
    · obtain ⟨u, hu, u0, ul⟩ := least_pos q
      by_cases z : 0 < p x ∧ p x < p u
      · refine ⟨x, List.mem_cons_self, z.1, fun v hv v0 => ?_⟩
        rcases List.mem_cons.mp hv with e | e
        · rw [e]
          exact Int.le_refl _
        · have := ul v e v0
          omega
      · refine ⟨u, List.mem_cons_of_mem _ hu, u0, fun v hv v0 => ?_⟩
        rcases List.mem_cons.mp hv with e | e
        · subst e
          omega
        · exact ul v e v0
    · obtain ⟨v, hv, v0⟩ := h
      rcases List.mem_cons.mp hv with e | e
      · subst e
        refine ⟨v, List.mem_cons_self, v0, fun y hy y0 => ?_⟩
        rcases List.mem_cons.mp hy with e | e
        · rw [e]
          exact Int.le_refl _
        · exact absurd ⟨y, e, y0⟩ q
      · exact absurd ⟨v, e, v0⟩ q
theorem neg_prod {c x : Int} (hc : 0 < c) (hx : x ≤ 0) : c * x ≤ 0 := by
  have := Int.mul_nonneg (Int.le_of_lt hc) (show 0 ≤ -x by omega)
  rw [Int.mul_neg] at this
  omega
theorem neg_prod' {c x : Int} (hc : 0 < c) (hx : x < 0) : c * x < 0 := by
  have := Int.mul_pos hc (show 0 < -x by omega)
  rw [Int.mul_neg] at this
  omega
theorem Sw_pos {w : Nat → Int} : ∀ {g : List Nat}, g ≠ [] → (∀ v ∈ g, 1 ≤ w v) → 0 < Sw w g
  | [], h, _ => absurd rfl h
  | [v], _, hw => by
    have := hw v List.mem_cons_self
    rw [Sw_cons]
    show 0 < w v + 0
    omega
  | v :: x :: g, _, hw => by
    have := Sw_pos (w := w) (g := x :: g) (by simp) (fun y hy => hw y (List.mem_cons_of_mem _ hy))
    have := hw v List.mem_cons_self
    rw [Sw_cons]
    omega
theorem AB_all {w p : Nat → Int} : ∀ {g : List Nat}, (∀ v ∈ g, p v ≠ 0) → Aw w p g + Aw w (fun v => - p v) g = Sw w g
  | [], _ => by simp [Sw, Aw]
  | v :: g, h => by
    have ih := AB_all (w := w) (p := p) (g := g) (fun x hx => h x (List.mem_cons_of_mem _ hx))
    have hv := h v List.mem_cons_self
    rw [Aw_cons, Aw_cons, Sw_cons]
    by_cases q : 0 < p v
    · rw [if_pos q, if_neg (show ¬ 0 < - p v by omega)]
      omega
    · rw [if_neg q, if_pos (show 0 < - p v by omega)]
      omega
/-- where 2A ≤ S and 2B ≤ S, and only there, nothing is cheaper than 0 -/
theorem middle {w p : Nat → Int} {g : List Nat} (ne : g ≠ []) (hw : ∀ v ∈ g, 1 ≤ w v) {u : Nat} (hu : u ∈ g) (least : ∀ v ∈ g, Cs w p g (p u) ≤ Cs w p g (p v)) :
    Cs w p g (p u) ≤ Cs w p g 0 ∧ (Cs w p g (p u) = Cs w p g 0 ↔ 2 * Aw w p g ≤ Sw w g ∧ 2 * Aw w (fun v => - p v) g ≤ Sw w g) := by
  have hw0 : ∀ v ∈ g, 0 ≤ w v := fun v hv => by have := hw v hv; omega
  have S0 := Sw_pos ne hw
  have up : 0 < Aw w p g → ∃ c : Int, 0 < c ∧ Cs w p g (p u) ≤ Cs w p g 0 + c * (Sw w g - 2 * Aw w p g) := fun h => by
    obtain ⟨x, hx, x0, xl⟩ := least_pos (Aw_pos h)
    refine ⟨p x, x0, ?_⟩
    rw [← Cs_up_eq x0 xl]
    exact least x hx
  have dn : 0 < Aw w (fun v => - p v) g → ∃ c : Int, 0 < c ∧ Cs w p g (p u) ≤ Cs w p g 0 + c * (Sw w g - 2 * Aw w (fun v => - p v) g) := fun h => by
    obtain ⟨x, hx, x0, xl⟩ := least_pos (Aw_pos h)
    refine ⟨- p x, x0, ?_⟩
    have e := Cs_up_eq (w := w) x0 xl
    rw [Cs_neg] at e
    have e0 : Cs w (fun v => - p v) g 0 = Cs w p g 0 := by
      have := Cs_neg w p g 0
      rw [Int.neg_zero] at this
      exact this
    rw [e0] at e
    rw [← e]
    exact least x hx
  have le : Cs w p g (p u) ≤ Cs w p g 0 := by
    by_cases z : ∃ v ∈ g, p v = 0
    · obtain ⟨v, hv, e⟩ := z
      have := least v hv
      rw [e] at this
      exact this
    · have nz : ∀ v ∈ g, p v ≠ 0 := fun v hv e => z ⟨v, hv, e⟩
      have ab := AB_all (w := w) nz
      by_cases h : Sw w g ≤ 2 * Aw w p g
      · obtain ⟨c, c0, hc⟩ := up (by omega)
        have := neg_prod c0 (show Sw w g - 2 * Aw w p g ≤ 0 by omega)
        omega
      · obtain ⟨c, c0, hc⟩ := dn (by omega)
        have := neg_prod c0 (show Sw w g - 2 * Aw w (fun v => - p v) g ≤ 0 by omega)
        omega
  refine ⟨le, fun e => ?_, fun ⟨h1, h2⟩ => ?_⟩
  · constructor
    · refine Int.not_lt.mp fun h => ?_
      obtain ⟨c, c0, hc⟩ := up (by omega)
      have := neg_prod' c0 (show Sw w g - 2 * Aw w p g < 0 by omega)
      omega
    · refine Int.not_lt.mp fun h => ?_
      obtain ⟨c, c0, hc⟩ := dn (by omega)
      have := neg_prod' c0 (show Sw w g - 2 * Aw w (fun v => - p v) g < 0 by omega)
      omega
  · refine Int.le_antisymm le ?_
    by_cases c0 : 0 < p u
    · have := Cs_up (w := w) (p := p) c0 hw0
      have := Int.mul_nonneg (Int.le_of_lt c0) (show 0 ≤ Sw w g - 2 * Aw w p g by omega)
      omega
    · by_cases c1 : 0 < - p u
      · have q := Cs_up (w := w) (p := fun v => - p v) c1 hw0
        rw [Cs_neg] at q
        have e0 : Cs w (fun v => - p v) g 0 = Cs w p g 0 := by
          have := Cs_neg w p g 0
          rw [Int.neg_zero] at this
          exact this
        rw [e0] at q
        have := Int.mul_nonneg (Int.le_of_lt c1) (show 0 ≤ Sw w g - 2 * Aw w (fun v => - p v) g by omega)
        omega
      · rw [show p u = 0 by omega]
        exact Int.le_refl _
end K29
namespace K29
/-! ### the law's names: one for all that is joined -/
theorem nset_at {a : List Nat} {t h v : Nat} (ht : t < a.length) (hh : h < a.length) : (nset a t h).getD v 0 = if v = t ∨ v = h then min (a.getD t 0) (a.getD h 0) else a.getD v 0 := by
  unfold nset
  by_cases e2 : h = v
  · subst e2
    rw [List.getD_eq_getElem?_getD, List.getElem?_set_self (by rw [List.length_set]; exact hh), if_pos (.inr rfl)]
    rfl
  · rw [List.getD_eq_getElem?_getD, List.getElem?_set_ne e2]
    by_cases e1 : t = v
    · subst e1
      rw [List.getElem?_set_self ht, if_pos (.inl rfl)]
      rfl
    · rw [List.getElem?_set_ne e1, ← List.getD_eq_getElem?_getD, if_neg]
      rintro (z | z)
      · exact e1 z.symm
      · exact e2 z.symm
theorem nset_le {a : List Nat} {t h : Nat} (ht : t < a.length) (hh : h < a.length) (v : Nat) : (nset a t h).getD v 0 ≤ a.getD v 0 := by
  rw [nset_at ht hh]
  split
  · rename_i q
    rcases q with q | q
    · rw [q]
      exact Nat.min_le_left _ _
    · rw [q]
      exact Nat.min_le_right _ _
  · exact Nat.le_refl _
theorem roundN_le {n : Nat} : ∀ {es : List (Nat × Nat)} {a : List Nat}, EdOk n es → a.length = n → ∀ v, (roundN es a).getD v 0 ≤ a.getD v 0
  | [], _, _, _, _ => Nat.le_refl _
  | e :: r, a, hes, hl, v => by
    obtain ⟨h1, h2⟩ := hes e List.mem_cons_self
    show (roundN r (nset a e.1 e.2)).getD v 0 ≤ _
    exact Nat.le_trans (roundN_le (fun x hx => hes x (List.mem_cons_of_mem _ hx)) (by rw [nset_len]; exact hl) v) (nset_le (by omega) (by omega) v)
theorem round_edge {n : Nat} : ∀ {es : List (Nat × Nat)} {a : List Nat}, EdOk n es → a.length = n → ∀ e ∈ es, (roundN es a).getD e.2 0 ≤ a.getD e.1 0 ∧ (roundN es a).getD e.1 0 ≤ a.getD e.2 0
  | [], _, _, _, e, h => by cases h
  | x :: r, a, hes, hl, e, h => by
    obtain ⟨h1, h2⟩ := hes x List.mem_cons_self
    have hr : EdOk n r := fun y hy => hes y (List.mem_cons_of_mem _ hy)
    have ln : (nset a x.1 x.2).length = n := by rw [nset_len]; exact hl
    show (roundN r (nset a x.1 x.2)).getD e.2 0 ≤ _ ∧ (roundN r (nset a x.1 x.2)).getD e.1 0 ≤ _
    rcases List.mem_cons.mp h with z | z
    · subst z
      have a1 := roundN_le hr ln e.2
      have a2 := roundN_le hr ln e.1
      rw [nset_at (by omega) (by omega), if_pos (.inr rfl)] at a1
      rw [nset_at (by omega) (by omega), if_pos (.inl rfl)] at a2
      exact ⟨Nat.le_trans a1 (Nat.min_le_left _ _), Nat.le_trans a2 (Nat.min_le_right _ _)⟩
    · obtain ⟨b1, b2⟩ := round_edge hr ln e z
      exact ⟨Nat.le_trans b1 (nset_le (by omega) (by omega) _), Nat.le_trans b2 (nset_le (by omega) (by omega) _)⟩
def NamesOk (n : Nat) (es : List (Nat × Nat)) (a : List Nat) : Prop := a.length = n ∧ ∀ v, v < n → a.getD v 0 < n ∧ Conn es (a.getD v 0) v
theorem names_round {n : Nat} {es0 : List (Nat × Nat)} (h0 : EdOk n es0) : ∀ {es : List (Nat × Nat)} {a : List Nat}, (∀ e ∈ es, e ∈ es0) → NamesOk n es0 a → NamesOk n es0 (roundN es a)
  | [], _, _, h => h
  | e :: r, a, hs, ⟨hl, h⟩ => by
    have he := hs e List.mem_cons_self
    obtain ⟨h1, h2⟩ := h0 e he
    refine names_round h0 (es := r) (fun x hx => hs x (List.mem_cons_of_mem _ hx)) (a := nset a e.1 e.2) ⟨by rw [nset_len]; exact hl, fun v hv => ?_⟩
    rw [nset_at (by omega) (by omega)]
    obtain ⟨a1, a2⟩ := h e.1 h1
    obtain ⟨b1, b2⟩ := h e.2 h2
    by_cases q : v = e.1 ∨ v = e.2
    · rw [if_pos q]
      have c1 : Conn es0 (a.getD e.1 0) v := by
        rcases q with q | q
        · rw [q]
          exact a2
        · rw [q]
          exact .fwd he a2
      have c2 : Conn es0 (a.getD e.2 0) v := by
        rcases q with q | q
        · rw [q]
          exact .bwd he b2
        · rw [q]
          exact b2
      by_cases m : a.getD e.1 0 ≤ a.getD e.2 0
      · rw [Nat.min_eq_left m]
        exact ⟨a1, c1⟩
      · rw [Nat.min_eq_right (by omega)]
        exact ⟨b1, c2⟩
    · rw [if_neg q]
      exact h v hv
theorem names_ok {n : Nat} {es : List (Nat × Nat)} (hes : EdOk n es) : ∀ k, NamesOk n es (roundsN es k (List.range n))
  | 0 => by
    refine ⟨List.length_range, fun v hv => ?_⟩
    have e : (roundsN es 0 (List.range n)).getD v 0 = v := by
      show (List.range n).getD v 0 = v
      simp [hv]
    rw [e]
    exact ⟨hv, .refl⟩
  | k + 1 => names_round hes (fun e h => h) (names_ok hes k)
theorem rounds_le {n : Nat} {es : List (Nat × Nat)} (hes : EdOk n es) {v : Nat} (hv : v < n) : ∀ k, (roundsN es k (List.range n)).getD v 0 ≤ v
  | 0 => by
    show (List.range n).getD v 0 ≤ v
    simp [hv]
  | k + 1 => Nat.le_trans (roundN_le hes (names_ok hes k).1 v) (rounds_le hes hv k)
theorem filter_le {p q : Nat → Bool} : ∀ {l : List Nat}, (∀ x ∈ l, p x = true → q x = true) → (l.filter p).length ≤ (l.filter q).length
  | [], _ => Nat.le_refl _
  | x :: r, h => by
    have ih := filter_le (l := r) (fun y hy => h y (List.mem_cons_of_mem _ hy))
    have hx := h x List.mem_cons_self
    rw [List.filter_cons, List.filter_cons]
    by_cases e : p x = true
    · rw [if_pos e, if_pos (hx e), List.length_cons, List.length_cons]
      omega
    · rw [if_neg e]
      split
      · rw [List.length_cons]
        omega
      · exact ih
theorem filter_lt {p q : Nat → Bool} : ∀ {l : List Nat}, (∀ x ∈ l, p x = true → q x = true) → (∃ x ∈ l, q x = true ∧ ¬ p x = true) → (l.filter p).length < (l.filter q).length
  | [], _, h => by
    obtain ⟨x, hx, _⟩ := h
    cases hx
  | x :: r, h, hx => by
    have h' : ∀ y ∈ r, p y = true → q y = true := fun y hy => h y (List.mem_cons_of_mem _ hy)
    have hxx := h x List.mem_cons_self
    have le := filter_le h'
    rw [List.filter_cons, List.filter_cons]
    obtain ⟨y, hy, h1, h2⟩ := hx
    rcases List.mem_cons.mp hy with e | e
    · subst e
      rw [if_neg h2, if_pos h1, List.length_cons]
      omega
    · have ih := filter_lt (l := r) h' ⟨y, e, h1, h2⟩
      by_cases e : p x = true
      · rw [if_pos e, if_pos (hxx e), List.length_cons, List.length_cons]
        omega
      · rw [if_neg e]
        split
        · rw [List.length_cons]
          omega
        · exact ih
abbrev belowN (es : List (Nat × Nat)) (n u k : Nat) : List Nat := (List.range n).filter fun v => decide ((roundsN es k (List.range n)).getD v 0 ≤ u)
theorem names_count {n : Nat} {es : List (Nat × Nat)} (hes : EdOk n es) {u : Nat} (hu : u < n) : ∀ k, k + 1 ≤ (belowN es n u k).length ∨ ∀ v, v < n → Conn es u v → (roundsN es k (List.range n)).getD v 0 ≤ u
  | 0 => by
    refine .inl (List.length_pos_of_mem (a := u) (List.mem_filter.mpr ⟨List.mem_range.mpr hu, decide_eq_true (rounds_le hes hu 0)⟩))
  | k + 1 => by
    have hl := (names_ok hes k).1
    have mono : ∀ v, (roundsN es (k + 1) (List.range n)).getD v 0 ≤ (roundsN es k (List.range n)).getD v 0 := roundN_le hes hl
    have edge : ∀ e ∈ es, (roundsN es (k + 1) (List.range n)).getD e.2 0 ≤ (roundsN es k (List.range n)).getD e.1 0 ∧ (roundsN es (k + 1) (List.range n)).getD e.1 0 ≤ (roundsN es k (List.range n)).getD e.2 0 := round_edge hes hl
    have sub : ∀ x ∈ List.range n, decide ((roundsN es k (List.range n)).getD x 0 ≤ u) = true → decide ((roundsN es (k + 1) (List.range n)).getD x 0 ≤ u) = true := fun x _ h => decide_eq_true (Nat.le_trans (mono x) (of_decide_eq_true h))
    rcases names_count hes hu k with h | h
    · by_cases z : ∃ x ∈ List.range n, decide ((roundsN es (k + 1) (List.range n)).getD x 0 ≤ u) = true ∧ ¬ decide ((roundsN es k (List.range n)).getD x 0 ≤ u) = true
      · exact .inl (Nat.le_trans (Nat.succ_le_succ h) (filter_lt sub z))
      · refine .inr fun v hv c => ?_
        have back : ∀ x, x < n → (roundsN es (k + 1) (List.range n)).getD x 0 ≤ u → (roundsN es k (List.range n)).getD x 0 ≤ u := fun x hx h1 => by
          refine Decidable.byContradiction fun h2 => z ⟨x, List.mem_range.mpr hx, decide_eq_true h1, fun q => h2 (of_decide_eq_true q)⟩
        have all : ∀ v, Conn es u v → (roundsN es k (List.range n)).getD v 0 ≤ u := fun v c => by
          induction c with
          | refl => exact rounds_le hes hu k
          | fwd he _ ih => exact back _ (hes _ he).2 (Nat.le_trans (edge _ he).1 ih)
          | bwd he _ ih => exact back _ (hes _ he).1 (Nat.le_trans (edge _ he).2 ih)
        exact Nat.le_trans (mono v) (all v c)
    · exact .inr fun v hv c => Nat.le_trans (mono v) (h v hv c)
theorem names_le {n : Nat} {es : List (Nat × Nat)} (hes : EdOk n es) {u v : Nat} (hu : u < n) (hv : v < n) (c : Conn es u v) : (lawNames n es).getD v 0 ≤ u := by
  rcases names_count hes hu n with h | h
  · have q := List.length_filter_le (fun v => decide ((roundsN es n (List.range n)).getD v 0 ≤ u)) (List.range n)
    rw [List.length_range] at q
    exact absurd (Nat.le_trans h q) (by omega)
  · exact h v hv c
theorem names_iff {n : Nat} {es : List (Nat × Nat)} (hes : EdOk n es) {u v : Nat} (hu : u < n) (hv : v < n) : (lawNames n es).getD u 0 = (lawNames n es).getD v 0 ↔ Conn es u v := by
  obtain ⟨_, ok⟩ := names_ok hes n
  obtain ⟨u1, u2⟩ := ok u hu
  obtain ⟨v1, v2⟩ := ok v hv
  constructor
  · intro e
    have u2 : Conn es ((lawNames n es).getD u 0) u := u2
    have v2 : Conn es ((lawNames n es).getD v 0) v := v2
    rw [e] at u2
    exact u2.symm.trans v2
  · intro c
    have a := names_le hes u1 hv (u2.trans c)
    have b := names_le hes v1 hu (v2.trans c.symm)
    exact Nat.le_antisymm b a
/-! ### the law's groups and the program's -/
theorem perm_nd {a b : List Nat} (ha : a.Nodup) (hb : b.Nodup) (h : ∀ x, x ∈ a ↔ x ∈ b) : a.Perm b := by
  exact (List.perm_ext_iff_of_nodup ha hb).mpr h
theorem groupOf_mem {n f v : Nat} {a : List Nat} : v ∈ groupOf n a f ↔ v < n ∧ a.getD v 0 = f := by
  unfold groupOf
  rw [List.mem_filter, List.mem_range, beq_iff_eq]
theorem groupOf_nd (n f : Nat) (a : List Nat) : (groupOf n a f).Nodup := List.Nodup.sublist List.filter_sublist List.nodup_range
theorem getD_at2 {g : List Nat} {i : Nat} (h : i < g.length) : g[i]? = some (g.getD i 0) := by simp [h]
theorem law_to {n : Nat} {es : List (Nat × Nat)} {gs : List (List Nat)} (hes : EdOk n es) (co : Comps (linksN n es (forestN n es)) n gs) {g : List Nat} (hg : g ∈ gs) : ∃ g' ∈ lawGroups n es, g'.Perm g := by
  obtain ⟨hl, ok⟩ := names_ok hes n
  have ne := co.ne g hg
  obtain ⟨u, hu⟩ : ∃ u, u ∈ g := by
    cases g with
    | nil => exact absurd rfl ne
    | cons y r => exact ⟨y, List.mem_cons_self⟩
  have hun := co.lt g hg u hu
  refine ⟨groupOf n (lawNames n es) ((lawNames n es).getD u 0), ?_, ?_⟩
  · refine List.mem_map.mpr ⟨(lawNames n es).getD u 0, List.mem_filter.mpr ⟨List.mem_range.mpr (ok u hun).1, ?_⟩, rfl⟩
    refine List.any_eq_true.mpr ⟨(lawNames n es).getD u 0, ?_, by simp⟩
    exact List.mem_of_getElem? (getD_at2 (by rw [show (lawNames n es).length = n from hl]; exact hun))
  · refine perm_nd (groupOf_nd _ _ _) (co.nd g hg) fun v => ?_
    rw [groupOf_mem, co.cls g hg u hu v, reach_conn hes]
    constructor
    · rintro ⟨hv, e⟩
      exact (names_iff hes hun hv).mp e.symm
    · intro c
      have hv : v < n := co.lt g hg v ((co.cls g hg u hu v).mpr ((reach_conn hes).mpr c))
      exact ⟨hv, ((names_iff hes hun hv).mpr c).symm⟩
theorem law_from {n : Nat} {es : List (Nat × Nat)} {gs : List (List Nat)} (hes : EdOk n es) (co : Comps (linksN n es (forestN n es)) n gs) {g' : List Nat} (hg : g' ∈ lawGroups n es) : ∃ g ∈ gs, g'.Perm g := by
  obtain ⟨hl, ok⟩ := names_ok hes n
  obtain ⟨f, hf, rfl⟩ := List.mem_map.mp hg
  obtain ⟨hf1, hf2⟩ := List.mem_filter.mp hf
  obtain ⟨y, hy, e⟩ := List.any_eq_true.mp hf2
  have e : y = f := beq_iff_eq.mp e
  subst e
  obtain ⟨u, hu⟩ := List.mem_iff_getElem?.mp hy
  have hun : u < n := by
    rw [← hl]
    exact (List.getElem?_eq_some_iff.mp hu).1
  have eu : (lawNames n es).getD u 0 = y := by
    rw [List.getD_eq_getElem?_getD, hu] <;> rfl
  obtain ⟨g, hg, hug⟩ := co.cov u hun
  refine ⟨g, hg, perm_nd (groupOf_nd _ _ _) (co.nd g hg) fun v => ?_⟩
  rw [groupOf_mem, co.cls g hg u hug v, reach_conn hes]
  constructor
  · rintro ⟨hv, e⟩
    exact (names_iff hes hun hv).mp (eu.trans e.symm)
  · intro c
    have hv : v < n := co.lt g hg v ((co.cls g hg u hug v).mpr ((reach_conn hes).mpr c))
    exact ⟨hv, ((names_iff hes hun hv).mpr c).symm.trans eu⟩
end K29
namespace K29
/-! ### the two answers are one -/
abbrev gF (L : List Int) : Nat → Int := fun v => L.getD v 0
theorem aboveG_eq (w p : List Int) : ∀ g : List Nat, aboveG w p g = Aw (gF w) (gF p) g
  | [] => rfl
  | v :: g => by
    have ih := aboveG_eq w p g
    unfold aboveG wsum at ih ⊢
    rw [Aw_cons, List.filter_cons]
    by_cases q : 0 < p.getD v 0
    · rw [if_pos (show decide (0 < p.getD v 0) = true from decide_eq_true q), List.map_cons, List.sum_cons, ih, if_pos (show 0 < gF p v from q)]
    · rw [if_neg (show ¬ decide (0 < p.getD v 0) = true from fun z => q (of_decide_eq_true z)), ih, if_neg (show ¬ 0 < gF p v from q)]
      omega
theorem belowG_eq (w p : List Int) : ∀ g : List Nat, belowG w p g = Aw (gF w) (fun v => - gF p v) g
  | [] => rfl
  | v :: g => by
    have ih := belowG_eq w p g
    unfold belowG wsum at ih ⊢
    rw [Aw_cons, List.filter_cons]
    by_cases q : p.getD v 0 < 0
    · rw [if_pos (show decide (p.getD v 0 < 0) = true from decide_eq_true q), List.map_cons, List.sum_cons, ih, if_pos (show 0 < - gF p v by show 0 < - p.getD v 0; omega)]
    · rw [if_neg (show ¬ decide (p.getD v 0 < 0) = true from fun z => q (of_decide_eq_true z)), ih, if_neg (show ¬ 0 < - gF p v by show ¬ 0 < - p.getD v 0; omega)]
      omega
theorem okG_iff (w p : List Int) (g : List Nat) : okG w p g = true ↔ 2 * Aw (gF w) (gF p) g ≤ Sw (gF w) g ∧ 2 * Aw (gF w) (fun v => - gF p v) g ≤ Sw (gF w) g := by
  unfold okG
  rw [aboveG_eq, belowG_eq, show wsum w g = Sw (gF w) g from rfl, Bool.not_eq_true', decide_eq_false_iff_not]
  unfold absI
  split <;> omega
theorem okG_perm {w p : List Int} {g g' : List Nat} (h : g.Perm g') : okG w p g = okG w p g' := by
  rw [Bool.eq_iff_iff, okG_iff, okG_iff]
  unfold Aw Sw
  rw [sum_perm h, sum_perm h, sum_perm h]
theorem lowest_iff {n : Nat} {es : List (Nat × Nat)} {gs : List (List Nat)} {w p : List Int} (hes : EdOk n es) (co : Comps (linksN n es (forestN n es)) n gs) : lowest w p (lawGroups n es) = true ↔ ∀ g ∈ gs, okG w p g = true := by
  unfold lowest
  rw [List.all_eq_true]
  constructor
  · intro h g hg
    obtain ⟨g', hg', pm⟩ := law_to hes co hg
    rw [← okG_perm pm]
    exact h g' hg'
  · intro h g' hg'
    obtain ⟨g, hg, pm⟩ := law_from hes co hg'
    rw [okG_perm pm]
    exact h g hg
theorem getD_setI {L : List Int} {i : Nat} {x : Int} (h : i < L.length) : (L.set i x).getD i 0 = x := by
  rw [List.getD_eq_getElem?_getD, List.getElem?_set_self h] <;> rfl
theorem getD_setI_ne {L : List Int} {i j : Nat} {x : Int} (h : i ≠ j) : (L.set i x).getD j 0 = L.getD j 0 := by
  rw [List.getD_eq_getElem?_getD, List.getElem?_set_ne h, ← List.getD_eq_getElem?_getD]
theorem shF_at {g : List Nat} : ∀ {P : List Int} {c : Int}, g.Nodup → (∀ v ∈ g, v < P.length) → ∀ v, (shF P g c).getD v 0 = if v ∈ g then P.getD v 0 + c else P.getD v 0 := by
  induction g with
  | nil =>
    intro P c _ _ v
    simp [shF]
  | cons x r ih =>
    intro P c nd hl v
    obtain ⟨n1, n2⟩ := List.nodup_cons.mp nd
    have hx := hl x List.mem_cons_self
    show (shF (P.set x (P.getD x 0 + c)) r c).getD v 0 = _
    rw [ih n2 (fun y hy => by rw [List.length_set]; exact hl y (List.mem_cons_of_mem _ hy))]
    by_cases e : v = x
    · subst e
      rw [if_neg n1, if_pos List.mem_cons_self, getD_setI hx]
    · rw [getD_setI_ne (fun z => e z.symm)]
      by_cases q : v ∈ r
      · rw [if_pos q, if_pos (List.mem_cons_of_mem _ q)]
      · rw [if_neg q, if_neg]
        intro z
        rcases List.mem_cons.mp z with z | z
        · exact e z
        · exact q z
theorem costN_eq {W P : List Int} {g : List Nat} {c : Int} {p : Nat → Int} (h : ∀ v ∈ g, P.getD v 0 = p v - c) : costN W P g = Cs (gF W) p g c := by
  unfold costN Cs
  refine congrArg List.sum (List.map_congr_left fun v hv => ?_)
  rw [h v hv]
theorem bests_end {W : List Int} {gs : List (List Nat)} {L F : List Int} (b : Bests W gs L F) (nd : ∀ g ∈ gs, g.Nodup) (lt : ∀ g ∈ gs, ∀ v ∈ g, v < L.length) (dis : gs.Pairwise fun a b => ∀ v ∈ a, v ∉ b) :
    (∀ v, (∀ g ∈ gs, v ∉ g) → F.getD v 0 = L.getD v 0) ∧ ∀ g ∈ gs, ∃ u ∈ g, (∀ v ∈ g, F.getD v 0 = L.getD v 0 - L.getD u 0) ∧ ∀ u' ∈ g, Cs (gF W) (gF L) g (L.getD u 0) ≤ Cs (gF W) (gF L) g (L.getD u' 0) := by
  induction b with
  | nil => exact ⟨fun v _ => rfl, fun g hg => by cases hg⟩
  | @snoc gs L F g u b hu least ih =>
    obtain ⟨d1, _, d3⟩ := List.pairwise_append.mp dis
    obtain ⟨i1, i2⟩ := ih (fun x hx => nd x (List.mem_append_left _ hx)) (fun x hx => lt x (List.mem_append_left _ hx)) d1
    have gm : g ∈ gs ++ [g] := List.mem_append_right _ (List.mem_singleton.mpr rfl)
    have gnd := nd g gm
    have glt : ∀ v ∈ g, v < F.length := fun v hv => by rw [b.len]; exact lt g gm v hv
    have apart : ∀ v ∈ g, ∀ g0 ∈ gs, v ∉ g0 := fun v hv g0 h0 z => d3 g0 h0 g (List.mem_singleton.mpr rfl) v z hv
    have Fg : ∀ v ∈ g, F.getD v 0 = L.getD v 0 := fun v hv => i1 v (apart v hv)
    have at_ := fun (c : Int) v => shF_at (P := F) (c := c) gnd glt v
    refine ⟨fun v hv => ?_, fun g0 h0 => ?_⟩
    · rw [at_, if_neg (hv g gm)]
      exact i1 v fun g0 h0 => hv g0 (List.mem_append_left _ h0)
    · rcases List.mem_append.mp h0 with z | z
      · obtain ⟨u0, hu0, e1, e2⟩ := i2 g0 z
        refine ⟨u0, hu0, fun v hv => ?_, e2⟩
        rw [at_, if_neg (fun q => apart v q g0 z hv)]
        exact e1 v hv
      · have eg : g0 = g := List.mem_singleton.mp z
        subst eg
        have sh : ∀ x ∈ g0, ∀ v ∈ g0, (shF F g0 (0 - F.getD x 0)).getD v 0 = L.getD v 0 - L.getD x 0 := fun x hx v hv => by
          rw [at_, if_pos hv, Fg v hv, Fg x hx]
          omega
        refine ⟨u, hu, fun v hv => sh u hu v hv, fun u' hu' => ?_⟩
        have q := least u' hu'
        rw [costN_eq (p := gF L) (c := L.getD u 0) (sh u hu), costN_eq (p := gF L) (c := L.getD u' 0) (sh u' hu')] at q
        exact q
theorem comps_perm {ls : List (List TripM)} {n : Nat} {gs : List (List Nat)} (co : Comps ls n gs) : (List.range n).Perm gs.flatten := by
  refine perm_nd List.nodup_range ?_ fun v => ?_
  · have : ∀ (gs : List (List Nat)), (∀ g ∈ gs, g.Nodup) → (gs.Pairwise fun a b => ∀ v ∈ a, v ∉ b) → gs.flatten.Nodup := fun gs => by
      induction gs with
      | nil => intro _ _; exact List.nodup_nil
      | cons g r ih =>
        intro h1 h2
        obtain ⟨a, b⟩ := List.pairwise_cons.mp h2
        rw [List.flatten_cons]
        refine List.nodup_append.mpr ⟨h1 g List.mem_cons_self, ih (fun x hx => h1 x (List.mem_cons_of_mem _ hx)) b, fun x hx y hy e => ?_⟩
        obtain ⟨g', hg', hy'⟩ := List.mem_flatten.mp hy
        rw [← e] at hy'
        exact a g' hg' x hx hy'
    exact this gs co.nd co.dis
  · rw [List.mem_range, List.mem_flatten]
    constructor
    · intro hv
      obtain ⟨g, hg, h⟩ := co.cov v hv
      exact ⟨g, hg, h⟩
    · rintro ⟨g, hg, h⟩
      exact co.lt g hg v h
theorem Cs_move {w p q : Nat → Int} {g : List Nat} {c d : Int} (h : ∀ v ∈ g, p v - c = q v - d) : Cs w p g c = Cs w q g d := by
  unfold Cs
  refine congrArg List.sum (List.map_congr_left fun v hv => ?_)
  rw [h v hv]
theorem best_math {n : Nat} {es : List (Nat × Nat)} {Pt W : List Int} {gs : List (List Nat)} {L F : List Int} (hes : EdOk n es) (wt : WtOk n W) (co : Comps (linksN n es (forestN n es)) n gs) (lv : LevOk n gs (fun v => Pt.getD v 0) L) (b : Bests W gs L F) :
    costN W Pt (List.range n) = costN W F (List.range n) ↔ lowest W Pt (lawGroups n es) = true := by
  obtain ⟨_, be⟩ := bests_end b co.nd (fun g hg v hv => by rw [lv.len]; exact co.lt g hg v hv) co.dis
  have pm := comps_perm co
  have e1 : ∀ X : List Int, costN W X (List.range n) = (gs.map fun g => costN W X g).sum := fun X => by
    unfold costN
    rw [sum_perm pm, sum_flat]
  have per : ∀ g ∈ gs, costN W F g ≤ costN W Pt g ∧ (costN W F g = costN W Pt g ↔ okG W Pt g = true) := fun g hg => by
    obtain ⟨u, hu, h1, h2⟩ := be g hg
    have lvg := lv.val g hg
    have eF : costN W F g = Cs (gF W) (gF Pt) g (Pt.getD u 0) := by
      refine costN_eq fun v hv => ?_
      rw [h1 v hv, lvg v hv, lvg u hu]
      show _ = Pt.getD v 0 - Pt.getD u 0
      omega
    have eP : costN W Pt g = Cs (gF W) (gF Pt) g 0 := costN_eq fun v hv => by
      show _ = Pt.getD v 0 - 0
      omega
    have mv : ∀ x ∈ g, Cs (gF W) (gF L) g (L.getD x 0) = Cs (gF W) (gF Pt) g (Pt.getD x 0) := fun x hx => by
      refine Cs_move fun v hv => ?_
      show L.getD v 0 - L.getD x 0 = Pt.getD v 0 - Pt.getD x 0
      rw [lvg v hv, lvg x hx]
      omega
    have q := middle (w := gF W) (p := gF Pt) (g := g) (co.ne g hg) (fun v hv => (wt.at (co.lt g hg v hv)).1) hu (fun v hv => by
      have := h2 v hv
      rw [mv u hu, mv v hv] at this
      exact this)
    rw [eF, eP, okG_iff]
    exact q
  rw [e1, e1, lowest_iff hes co, sum_eq_iff (fun g hg => (per g hg).1)]
  exact ⟨fun h g hg => (per g hg).2.mp (h g hg), fun h g hg => (per g hg).2.mpr (h g hg)⟩
end K29
namespace K29
open PySem PySem.Spec PyProof.Rows L2 LamX NdefX
/-! ### the law -/
theorem best_iff {n : Nat} {es : List (Nat × Nat)} {Pt W : List Int} {M : Int} (ok : WebOk n es) (lP : Pt.length = n) (wt : WtOk n W) (b : BestM n es Pt W M) : decide (costN W Pt (List.range n) = M) = lowest W Pt (lawGroups n es) := by
  obtain ⟨gs, L, F, co, lv, hB, rfl⟩ := b
  rw [Bool.eq_iff_iff, decide_eq_true_eq]
  exact best_math ok.lt wt co lv hB
/-- all but the pool and the tables stays -/
def ExtP (p : Addr) (H H' : Hp) : Prop := ∀ b o, b ≠ p → H b = some o → (∀ ps, o ≠ .tbl ps) → H' b = some o
theorem ExtP.refl (p : Addr) (H : Hp) : ExtP p H H := fun _ _ _ h _ => h
theorem ExtP.of {p : Addr} {H H' : Hp} (e : SameP p H H') : ExtP p H H' := fun b o n h _ => e b o n h
theorem ExtP.ext {p : Addr} {H H' : Hp} (e : ExtN H H') : ExtP p H H' := fun b o _ h m => e b o h m
theorem ExtP.trans {p : Addr} {H H1 H2 : Hp} (a : ExtP p H H1) (b : ExtP p H1 H2) : ExtP p H H2 := fun c o n h m => b c o n (a c o n h m) m
theorem ExtP.extN {p : Addr} {H0 H H' : Hp} (a : ExtN H0 H) (n : H0 p = none) (e : ExtP p H H') : ExtN H0 H' := fun b o h m => e b o (ne_of_none h n) (a b o h m) m
theorem ExtP.tups {p : Addr} {H H' : Hp} (hp : Pool H p) (e : ExtP p H H') : Tups H H' := fun b xs h => by
  obtain ⟨x, y, h1, _⟩ := hp
  exact e b _ (ne_of h h1 (by intro z; cases z)) h (fun _ z => by cases z)
theorem edges_ne {p a : Addr} {H : Hp} {es : List (Nat × Nat)} (hp : Pool H p) (h : EdgesAt H a es) : a ≠ p := fun z => by
  obtain ⟨x, y, h1, _⟩ := hp
  obtain ⟨vs, h2, h3⟩ := h
  rw [z, h1] at h2
  cases h2
  cases es with
  | nil => cases h3
  | cons e r =>
    cases h3 with
    | cons q _ =>
      obtain ⟨t, z, _⟩ := q
      cases z
theorem EdgesAt.extP {p a : Addr} {H H' : Hp} {es : List (Nat × Nat)} (hp : Pool H p) (h : EdgesAt H a es) (e : ExtP p H H') : EdgesAt H' a es := by
  have n := edges_ne hp h
  obtain ⟨vs, h2, h3⟩ := h
  exact ⟨vs, e _ _ n h2 (fun _ z => by cases z), Paired.mapP h3 fun v x => PairR.mono (e.tups hp)⟩
theorem WebAt.extP {p x C : Addr} {H H' : Hp} {n : Nat} {es : List (Nat × Nat)} (hp : Pool H p) (h : WebAt C H x n es) (e : ExtP p H H') : WebAt C H' x n es := by
  obtain ⟨dx, ea, fa, la, h1, h2⟩ := h
  obtain ⟨i, j, h3, _⟩ := id hp
  exact ⟨dx, ea, fa, la, e _ _ (ne_of h1 h3 (by intro z; cases z)) h1 (fun _ z => by cases z), EdgesAt.extP hp h2 e⟩
theorem tabs_same {p : Addr} {H H' : Hp} {T : List NTab} (hp : Pool H p) (h : TabsN T H) (e : SameP p H H') : TabsN T H' := fun t ht => by
  obtain ⟨x, y, h0, _⟩ := hp
  obtain ⟨ps, h1, h2, h3⟩ := h t ht
  refine ⟨ps, e _ _ (ne_of h1 h0 (by intro z; cases z)) h1, h2, fun pos cv hc => ?_⟩
  obtain ⟨c, e1, hco⟩ := h3 pos cv hc
  exact ⟨c, e1, e _ _ (ne_of hco h0 (by intro z; cases z)) hco⟩
theorem Pool.ext {p : Addr} {H H' : Hp} (h : Pool H p) (e : ExtN H H') : Pool H' p := by
  obtain ⟨a, b, h1, h2⟩ := h
  exact ⟨a, b, e _ _ h1 (fun _ z => by cases z), h2⟩
theorem SqL.nf {K : PySem.W.Frag} {H H' : Hp} {a : Addr} {xs : List V} (h : SqL K H a xs) (e : ExtN H H') : SqL K H' a xs := by
  rcases h with (h | ⟨o, h⟩) | h
  · exact .inl (.inl (e _ _ h (fun _ z => by cases z)))
  · exact .inl (.inr ⟨o, e _ _ h (fun _ z => by cases z)⟩)
  · exact .inr h
section
variable {P : Program} {w : World} {K : PySem.W.Frag} {mg : Str → Option Value} {base : Heap}
def spLaw (K : PySem.W.Frag) (T : List NTab) : Sp := fun vs H Q _ => ∃ (a : Addr) (ns : List Int), vs = [.ref a] ∧ SqL K H a (ns.map V.int) ∧ ns.length ≤ 1000 ∧ TabsN T H ∧ ∀ H', Q (.bl true) H'
structure LawCals (P : Program) (w : World) (K : PySem.W.Frag) (mg : Str → Option Value) (base : Heap) (C : Addr) (T : List NTab) (fx : V) : Prop where
  pool : C8.Cal P w K mg base 1 "_law_pool" (spPool K) []
  take : C8.Cal P w K mg base 1 "_law_take" spTake []
  links : C8.Cal P w K mg base 2 "_law_links" spLinks []
  web : C8.Mak P w K mg base 5 "Web" C (spWebInit C) [.int 0]
  numbers : C8.Cal P w K mg base 3 "_law_numbers" spNumbers []
  cost : CalK P w K mg base 7 "cost" (spCost C) 2 ["weights"] (fun vs zs => vs ++ zs)
  lowest : C8.Cal P w K mg base 2 "_law_lowest" spLowest []
  sw : C8.Cal P w K mg base 7 "switched" (spSwitched C) []
  isch : CalK P w K mg base 11 "is_cheapest" (spIsCh K C T) 4 ["weights"] (fun vs zs => vs ++ (zs ++ [fx]))
theorem law_body {C fx : Addr} {T : List NTab} (G : Bn mg) (L : LawCals P w K mg base C T (.ref fx)) (hfx : ∀ H, SqT K H fx []) : Body P w K mg base Nlaw "law" slaw 11 (spLaw K T) := by
  intro f cdv A outer s H vs Q E hr h
  obtain ⟨a, ns, rfl, hS, ln, hT, q⟩ := h
  refine ⟨_, (pss_cons (ps_for PassesOwn.never rfl (pi_range1 (by rfl) G.range (pa_cons (pe_callB (call_max2 rfl) (by rfl) G.max (by decide +kernel) (pa_cons pe_int (pa_cons (pe_callB (call_min2 rfl) (by rfl) G.min (by decide +kernel) (pa_cons (pe_callB (cLen K) (by rfl) G.len (by decide +kernel) (pa_cons (pv 0) pa_nil)) (pa_cons pe_int pa_nil))) pa_nil))) pa_nil)) (pg_name (i := 1) sclaw.nd rfl (Or.inl rfl))
  (pss_cons (ps_set (i := 2) sclaw.nd rfl (Or.inr rfl) (C8.pe_c L.pool hr (by decide) (by rfl) (pa_cons (pv 0) (pa_cons (pv 1) pa_nil))))
    (pss_cons (ps_set (i := 3) sclaw.nd rfl (Or.inl rfl) (pe_op op_add pe_int (C8.pe_c L.take hr (by decide) (by rfl) (pa_cons (pv 2) (pa_cons pe_int pa_nil)))))
    (pss_cons (ps_set (i := 4) sclaw.nd rfl (Or.inl rfl) (C8.pe_c L.links hr (by decide) (by rfl) (pa_cons (pv 2) (pa_cons (pv 3) (pa_cons pe_int pa_nil)))))
    (pss_cons (ps_set (i := 5) sclaw.nd rfl (Or.inl rfl) (C8.pe_mk L.web hr (by decide) (by rfl) (pa_cons (pv 3) (pa_cons (pv 4) pa_nil))))
    (pss_cons (ps_set (i := 6) sclaw.nd rfl (Or.inl rfl) (C8.pe_c L.numbers hr (by decide) (by rfl) (pa_cons (pv 2) (pa_cons pe_int (pa_cons (pe_callB (cLen K) (by rfl) G.len (by decide +kernel) (pa_cons (pv 4) pa_nil)) pa_nil)))))
    (pss_one (ps_for PassesOwn.never rfl (pi_range1 (by rfl) G.range (pa_cons pe_int pa_nil)) (pg_name (i := 7) sclaw.nd rfl (Or.inl rfl))
    (pss_cons (ps_setLc (i := 8) (own := [("_law_node", 12)]) rfl sclaw.nd rfl rfl (sw_true rfl rfl rfl (by decide +kernel)) (pi_range1 (by rfl) G.range (pa_cons (pv 3) pa_nil)) (blkOk_by (N := Nlaw) (sc := defScope slaw) (by decide +kernel)) (fun _ _ _ _ _ => (pg_name (i := 12) sclaw.nd rfl (Or.inl rfl))) (fun _ _ _ _ _ => pts_nil) (fun _ _ _ _ _ => (pe_ix (ixL K) (pe_lst (pa_cons pe_int (pa_cons pe_int (pa_cons pe_int (pa_cons (pe_un un_neg pe_int) (pa_cons pe_int (pa_cons (C8.pe_c L.take hr (by decide) (by rfl) (pa_cons (pv 2) (pa_cons (pe_op op_pow pe_int pe_int) pa_nil))) pa_nil))))))) (C8.pe_c L.take hr (by decide) (by rfl) (pa_cons (pv 2) (pa_cons pe_int pa_nil))) (fun _ _ => rfl))))
      (pss_cons (ps_setLc (i := 9) (own := [("_law_node", 12)]) rfl sclaw.nd rfl rfl (sw_true rfl rfl rfl (by decide +kernel)) (pi_range1 (by rfl) G.range (pa_cons (pv 3) pa_nil)) (blkOk_by (N := Nlaw) (sc := defScope slaw) (by decide +kernel)) (fun _ _ _ _ _ => (pg_name (i := 12) sclaw.nd rfl (Or.inl rfl))) (fun _ _ _ _ _ => pts_nil) (fun _ _ _ _ _ => (pe_op op_add pe_int (C8.pe_c L.take hr (by decide) (by rfl) (pa_cons (pv 2) (pa_cons (pe_ix (ixL K) (pe_lst (pa_cons pe_int (pa_cons pe_int (pa_cons (pe_op op_pow pe_int pe_int) pa_nil)))) (C8.pe_c L.take hr (by decide) (by rfl) (pa_cons (pv 2) (pa_cons pe_int pa_nil))) (fun _ _ => rfl)) pa_nil))))))
      (pss_cons (ps_set (i := 10) sclaw.nd rfl (Or.inl rfl) (pe_tup (pa_cons pe_str (pa_cons (pv 8) (pa_cons (pe_ck L.cost hr (by decide) (by rfl) (pa_cons (pv 5) (pa_cons (pv 8) pa_nil)) (pk_cons (pv 9) pk_nil)) pa_nil)))))
      (pss_cons (ps_set (i := 11) sclaw.nd rfl (Or.inl rfl) (C8.pe_c L.lowest hr (by decide) (by rfl) (pa_cons (pv 3) (pa_cons (pv 4) (pa_cons (pv 8) (pa_cons (pv 9) pa_nil))))))
      (pss_one (ps_if (pt_cmpR op_ne (pe_callB call_repr_bl (by rfl) G.repr (by decide +kernel) (pa_cons (pe_ck L.isch hr (by decide) (by rfl) (pa_cons (pv 5) (pa_cons (pv 6) (pa_cons (C8.pe_c L.sw hr (by decide) (by rfl) (pa_cons (pv 5) (pa_cons (pv 6) (pa_cons (pv 8) pa_nil)))) (pa_cons (pv 10) pa_nil)))) (pk_cons (pv 9) pk_nil)) pa_nil)) (pe_callB call_repr_bl (by rfl) G.repr (by decide +kernel) (pa_cons (pv 11) pa_nil)) (nomark _))
      (pss_one ps_never)
      pss_nil))))))))))))))
  (pss_one (ps_ret pe_bl))), ?_⟩
  have key : ∀ l : Int, 0 ≤ l → ∃ m : Int, (if (if 4 < l then 4 else l) > 1 then (if 4 < l then 4 else l) else 1) = m ∧ 0 ≤ m ∧ m ≤ 4 := fun l hl => by
    refine ⟨_, rfl, ?_, ?_⟩ <;> split <;> (try split) <;> omega
  obtain ⟨m, em, m0, m4⟩ := key ((ns.map V.int).length : Int) (by omega)
  refine ⟨_, rfl, a, _, rfl, .inl hS, _, _, rfl, _, _, rfl, ?_⟩
  rw [em]
  refine ⟨m, rfl, by omega, by omega, for_range (lo := 0) (n := m.toNat) (fun i σ H1 => ∃ (o1 o2 o3 o4 o5 o6 o7 o8 o9 o10 o11 o12 : Option V), σ = [some (.ref a), o1, o2, o3, o4, o5, o6, o7, o8, o9, o10, o11, o12] ∧ ExtN H H1 ∧ TabsN T H1)
    ⟨none, none, none, none, none, none, none, none, none, none, none, none, rfl, ExtN.refl _, hT⟩ ?_ ?_⟩
  · rintro i σ H1 hi ⟨o1, o2, o3, o4, o5, o6, o7, o8, o9, o10, o11, o12, rfl, e01, T1⟩
    rw [Int.zero_add]
    refine ⟨_, rfl, _, rfl, a, ns, i, rfl, SqL.nf hS e01, by omega, fun p H2 hp0 s2 hp2 => ?_⟩
    refine ⟨_, rfl, p, 12, rfl, hp2, by decide, by decide, fun v H3 v0 v1 hp3 s3 => ⟨_, _, rfl, rfl, ?_⟩⟩
    obtain ⟨n, en⟩ : ∃ n : Nat, 1 + v = (n : Int) := ⟨(1 + v).toNat, by omega⟩
    rw [show ((fun i j : Int => V.int (i + j)) 1 v) = V.int (n : Int) from congrArg V.int en]
    refine ⟨_, rfl, _, rfl, p, n, rfl, hp3, by omega, by omega, fun la H4 es hla s4 hp4 les hes hE4 => ?_⟩
    have ok : WebOk n es := ⟨by omega, by omega, les, hes⟩
    refine ⟨_, rfl, _, rfl, fun x dx hx hdx nx => ?_⟩
    have s4a : Same H4 (upd (upd H4 dx (.own x)) x (.ins C dx [])) := Same.trans (same_upd hdx) (same_upd (by rw [upd_ne nx.symm]; exact hx))
    refine ⟨x, dx, n, la, es, rfl, upd_same, hE4.same s4a, ok, fun H5 s5 hW5 => ⟨rfl, ?_⟩⟩
    have s45 : Same H4 H5 := fun b o h => s5 _ _ (ne_of_none h hx) (s4a _ _ h)
    have hp5 := hp4.keep s45
    obtain ⟨ws, hws, hwp⟩ := hE4.same s45
    have lws : ws.length = es.length := Paired.length hwp
    refine ⟨_, rfl, _, rfl, la, ws, rfl, .inl (SqL.of hws), p, ws.length, rfl, hp5, by omega, fun oa H6 L hoa hp6 s6 lL hL6 => ?_⟩
    have hE5 : EdgesAt H5 la es := ⟨ws, hws, hwp⟩
    have noap : oa ≠ p := hp5.ne hoa
    have hE6 := EdgesAt.extP hp5 hE5 (ExtP.of s6)
    have hW6 := WebAt.extP hp5 hW5 (ExtP.of s6)
    have T6 : TabsN T H6 := tabs_same hp5 (tabs_same hp2 (T1.ext s2) (s3.trans (s4.trans (SameP.of s45)))) s6
    have hp1n : H1 p = none := hp0
    have g16 : ExtN H1 H6 := by
      have f1 : ExtP p H1 H6 := (ExtP.of (SameP.of s2)).trans (ExtP.of (s3.trans (s4.trans ((SameP.of s45).trans s6))))
      exact fun b o h m => f1 b o (ne_of_none h hp1n) h m
    refine ⟨8, rfl, by decide, by decide, for_range (lo := 0) (n := (8 : Int).toNat) (fun j σ H7 => ∃ (o7 o8 o9 o10 o11 o12 : Option V), σ = [some (.ref a), some (.int i), some (.ref p), some (nI n), some (.ref la), some (.ref x), some (.ref oa), o7, o8, o9, o10, o11, o12] ∧ ExtP p H6 H7 ∧ Pool H7 p ∧ TabsN T H7)
      ⟨_, _, _, _, _, _, rfl, ExtP.refl _ _, hp6, T6⟩ ?_ ?_⟩
    · rintro j σ H7 hj ⟨o7, o8, o9, o10, o11, o12, rfl, e67, hp7, T7⟩
      have hW7 := WebAt.extP hp6 hW6 e67
      have hE7 := EdgesAt.extP hp6 hE6 e67
      have hL7 : IntsAt H7 oa L := e67 _ _ noap hL6 (fun _ z => by cases z)
      -- the levels
      refine ⟨_, rfl, n, rfl, by omega, by omega, fun D1 hD1 => ?_⟩
      have nD1 : D1 ≠ p := hp7.ne hD1
      refine lc_range (lo := 0) (n := n) (fun i H8 => ∃ Pt : List Int, Pt.length = i ∧ IntsAt H8 D1 Pt ∧ Pool H8 p ∧ SameP p H7 H8) ⟨[], rfl, upd_same, hp7.upd nD1.symm, SameP.of (same_upd hD1)⟩ (fun i H8 hi hP => ?_) (fun H8 hP => ?_)
      · obtain ⟨Pt, hl, hL, hp8, s8⟩ := hP
        have fin : ∀ (y : Int) (H9 : Hp), Pool H9 p → SameP p H8 H9 → ∃ acc, H9 D1 = some (.lst acc) ∧ acc.length < sizeLine ∧ ∃ Pt : List Int, Pt.length = i + 1 ∧ IntsAt (upd H9 D1 (.lst (acc ++ [V.int y]))) D1 Pt ∧ Pool (upd H9 D1 (.lst (acc ++ [V.int y]))) p ∧ SameP p H7 (upd H9 D1 (.lst (acc ++ [V.int y]))) := fun y H9 hp9 s9 => by
          refine ⟨_, s9 _ _ nD1 hL, small_lt (by rw [List.length_map]; omega), Pt ++ [y], by simp [hl], ?_, hp9.upd nD1.symm, fun b o n h => ?_⟩
          · show upd H9 D1 _ D1 = _
            rw [upd_same, List.map_append] <;> rfl
          · rw [upd_ne (ne_of_none h hD1)]
            exact s9 _ _ n (s8 _ _ n h)
        refine ⟨rfl, ?_⟩
        refine ⟨_, rfl, _, rfl, _, _, rfl, rfl, ⟨by decide, by decide, by decide⟩, p, _, rfl, hp8, (by decide), (by decide), fun v2 H9 b0 b1 hp9 s9 => ?_⟩
        refine ⟨(by show 6 ≤ sizeLine; decide), fun l hl2 => ?_⟩
        have nl : l ≠ p := hp9.ne hl2
        refine ⟨_, rfl, p, 6, rfl, hp9.upd nl.symm, by decide, by decide, fun v3 H10 c0 c1 hp10 s10 => ?_⟩
        have e3 := s10 _ _ nl upd_same
        have f10 : SameP p H8 H10 := fun b o n h => by
          have h2 := s9 _ _ n h
          exact s10 _ _ n (by rw [upd_ne (ne_of_none h2 hl2)]; exact h2)
        obtain ⟨jj, rfl⟩ : ∃ jj : Nat, v3 = jj := ⟨v3.toNat, (Int.toNat_of_nonneg c0).symm⟩
        have hj : jj < 6 := by omega
        rcases jj with _ | _ | _ | _ | _ | _ | jj
        · exact ⟨_, _, _, _, rfl, rfl, SqL.of e3, atI_nat (j := 0) rfl, fin _ _ hp10 f10⟩
        · exact ⟨_, _, _, _, rfl, rfl, SqL.of e3, atI_nat (j := 1) rfl, fin _ _ hp10 f10⟩
        · exact ⟨_, _, _, _, rfl, rfl, SqL.of e3, atI_nat (j := 2) rfl, fin _ _ hp10 f10⟩
        · exact ⟨_, _, _, _, rfl, rfl, SqL.of e3, atI_nat (j := 3) rfl, fin _ _ hp10 f10⟩
        · exact ⟨_, _, _, _, rfl, rfl, SqL.of e3, atI_nat (j := 4) rfl, fin _ _ hp10 f10⟩
        · exact ⟨_, _, _, _, rfl, rfl, SqL.of e3, atI_nat (j := 5) rfl, fin _ _ hp10 f10⟩
        · omega
      obtain ⟨Pt, lP, hPt, hp8, s8⟩ := hP
      -- the weights
      refine ⟨_, rfl, n, rfl, by omega, by omega, fun D2 hD2 => ?_⟩
      have nD2 : D2 ≠ p := hp8.ne hD2
      refine lc_range (lo := 0) (n := n) (fun i H9 => ∃ W : List Int, W.length = i ∧ (∀ y ∈ W, 1 ≤ y ∧ y ≤ 2 ^ 40) ∧ IntsAt H9 D2 W ∧ Pool H9 p ∧ SameP p H8 H9) ⟨[], rfl, by simp, upd_same, hp8.upd nD2.symm, SameP.of (same_upd hD2)⟩ (fun i H9 hi hP => ?_) (fun H9 hP => ?_)
      · obtain ⟨W, hl, hw, hL, hp9, s9⟩ := hP
        have fin : ∀ (y : Int) (H10 : Hp), 1 ≤ y → y ≤ 2 ^ 40 → Pool H10 p → SameP p H9 H10 → ∃ acc, H10 D2 = some (.lst acc) ∧ acc.length < sizeLine ∧ ∃ W : List Int, W.length = i + 1 ∧ (∀ y ∈ W, 1 ≤ y ∧ y ≤ 2 ^ 40) ∧ IntsAt (upd H10 D2 (.lst (acc ++ [V.int y]))) D2 W ∧ Pool (upd H10 D2 (.lst (acc ++ [V.int y]))) p ∧ SameP p H8 (upd H10 D2 (.lst (acc ++ [V.int y]))) := fun y H10 y1 y2 hp10 s10 => by
          refine ⟨_, s10 _ _ nD2 hL, small_lt (by rw [List.length_map]; omega), W ++ [y], by simp [hl], fun z hz => ?_, ?_, hp10.upd nD2.symm, fun b o n h => ?_⟩
          · rcases List.mem_append.mp hz with q | q
            · exact hw z q
            · rw [List.mem_singleton.mp q]
              exact ⟨y1, y2⟩
          · show upd H10 D2 _ D2 = _
            rw [upd_same, List.map_append] <;> rfl
          · rw [upd_ne (ne_of_none h hD2)]
            exact s10 _ _ n (s9 _ _ n h)
        refine ⟨rfl, ?_⟩
        refine ⟨_, rfl, _, _, rfl, rfl, ⟨by decide, by decide, by decide⟩, (by show 3 ≤ sizeLine; decide), fun l hl2 => ?_⟩
        have nl : l ≠ p := hp9.ne hl2
        refine ⟨_, rfl, p, 3, rfl, hp9.upd nl.symm, by decide, by decide, fun v3 H10 c0 c1 hp10 s10 => ?_⟩
        have e3 := s10 _ _ nl upd_same
        have f10 : SameP p H9 H10 := fun b o n h => s10 _ _ n (by rw [upd_ne (ne_of_none h hl2)]; exact h)
        obtain ⟨jj, rfl⟩ : ∃ jj : Nat, v3 = jj := ⟨v3.toNat, (Int.toNat_of_nonneg c0).symm⟩
        have hj : jj < 3 := by omega
        rcases jj with _ | _ | _ | jj
        · exact ⟨_, _, _, _, rfl, rfl, SqL.of e3, atI_nat (j := 0) rfl, p, 1, rfl, hp10, by decide, by decide, fun u H11 u0 u1 hp11 s11 => ⟨_, _, rfl, rfl, fin _ _ (by omega) (by omega) hp11 (f10.trans s11)⟩⟩
        · exact ⟨_, _, _, _, rfl, rfl, SqL.of e3, atI_nat (j := 1) rfl, p, 4, rfl, hp10, by decide, by decide, fun u H11 u0 u1 hp11 s11 => ⟨_, _, rfl, rfl, fin _ _ (by omega) (by omega) hp11 (f10.trans s11)⟩⟩
        · exact ⟨_, _, _, _, rfl, rfl, SqL.of e3, atI_nat (j := 2) rfl, p, 10 ^ 9, rfl, hp10, by decide, by decide, fun u H11 u0 u1 hp11 s11 => ⟨_, _, rfl, rfl, fin _ _ (by omega) (by omega) hp11 (f10.trans s11)⟩⟩
        · omega
      obtain ⟨W, lW, hw, hWt, hp9, s9⟩ := hP
      have wt : WtOk n W := ⟨lW, fun y hy => (hw y hy).1, fun y hy => (hw y hy).2⟩
      have hPt9 : IntsAt H9 D1 Pt := s9 _ _ nD1 hPt
      have s79 : SameP p H7 H9 := s8.trans s9
      have hW9 := WebAt.extP hp7 hW7 (ExtP.of s79)
      have hE9 := EdgesAt.extP hp7 hE7 (ExtP.of s79)
      have hL9 : IntsAt H9 oa L := s79 _ _ noap hL7
      have T9 := tabs_same hp7 T7 s79
      -- the thing
      refine ⟨_, rfl, _, rfl, _, rfl, _, rfl, rfl, rfl, x, n, es, D1, D2, W, Pt, rfl, hW9, ok, hPt9, lP, hWt, wt, fun H10 s10 => ?_⟩
      refine ⟨(by show 3 ≤ sizeLine; decide), fun th hth => ?_⟩
      have s11 : Same H10 (upd H10 th (.tup [.str "potential", .ref D1, .int (costN W Pt (List.range n))])) := same_upd hth
      have hth11 : upd H10 th (.tup [.str "potential", .ref D1, .int (costN W Pt (List.range n))]) th = some (.tup [.str "potential", .ref D1, .int (costN W Pt (List.range n))]) := upd_same
      generalize upd H10 th (.tup [.str "potential", .ref D1, .int (costN W Pt (List.range n))]) = H11 at s11 hth11 ⊢
      have s911 := Same.trans s10 s11
      -- what is due
      refine ⟨_, rfl, _, rfl, _, rfl, _, rfl, n, la, D1, D2, es, Pt, W, rfl, hE9.same s911, ok.n12, hes, s911 _ _ hPt9, s911 _ _ hWt, lP, lW, fun H12 s12 => ?_⟩
      have s912 := Same.trans s911 s12
      -- the question
      refine ⟨_, rfl, _, rfl, _, rfl, _, rfl, _, rfl, x, n, es, oa, D1, L, Pt, rfl, hW9.same s912, ok, s912 _ _ hL9, by omega, s912 _ _ hPt9, lP, fun sa H13 hsa s13 hsw => ?_⟩
      have s913 := Same.trans s912 s13
      refine ⟨_, rfl, _, rfl, rfl, rfl, x, oa, sa, th, D2, fx, D1, n, es, L, Pt, W, rfl, hW9.same s913, ok, s913 _ _ hL9, by omega, hsw, lP, s913 _ _ hWt, wt, hfx _, T9.ext s913, s13 _ _ (s12 _ _ hth11), s913 _ _ hPt9, fun H14 M bM e14 T14 => ?_⟩
      refine ⟨_, rfl, _, rfl, _, rfl, rfl, _, rfl, ?_⟩
      rw [best_iff ok lP wt bM]
      rw [show (!decide (V.str (if lowest W Pt (lawGroups n es) = true then "True" else "False") = V.str (if lowest W Pt (lawGroups n es) = true then "True" else "False"))) = false by simp]
      refine iteF ?_
      have e914 : ExtN H9 H14 := (ExtN.of s913).trans e14
      exact ⟨_, _, _, _, _, _, rfl, (e67.trans (ExtP.of s79)).trans (ExtP.ext e914), hp9.ext e914, T14⟩
    · rintro σ H7 ⟨o7, o8, o9, o10, o11, o12, rfl, e67, hp7, T7⟩
      exact ⟨_, _, _, _, _, _, _, _, _, _, _, _, rfl, e01.trans (ExtP.extN g16 hp1n e67), T7⟩
  · rintro σ H1 ⟨o1, o2, o3, o4, o5, o6, o7, o8, o9, o10, o11, o12, rfl, e01, T1⟩
    exact q H1
end
end K29
namespace K29
open PySem PySem.Spec PyProof.Rows L2
/-! ### the head -/
/-- a keyword-only default of a def, an object -/
def kwA (f : Str × Option Str) (x : Str) (K : PySem.W.Frag) : Addr := match K.lookup (He.fAd K f) with
  | some ⟨_, _, .func fd, _⟩ => (match fd.kwdefaults with
    | .ref D => (match PySem.W.nsIn K D x with
      | some (some (.ref a)) => a
      | _ => 0)
    | _ => 0)
  | _ => 0
def tup0 (K : PySem.W.Frag) (a : Addr) : Bool := match K.lookup a with
  | some ⟨.type c, _, .seq its _, _⟩ => decide (c = "tuple") && its.isEmpty
  | _ => false
def d_reduced_number : He.DefD := ⟨("reduced_number", none), "reduced_number", "reduced_number", defArgs sreduced_number, defBody sreduced_number, defScope sreduced_number, [], []⟩
def d_forest_of : He.DefD := ⟨("forest_of", none), "forest_of", "forest_of", defArgs sforest_of, defBody sforest_of, defScope sforest_of, [], []⟩
def d_links_of : He.DefD := ⟨("links_of", none), "links_of", "links_of", defArgs slinks_of, defBody slinks_of, defScope slinks_of, [], []⟩
def d_walk_paths : He.DefD := ⟨("walk_paths", none), "walk_paths", "walk_paths", defArgs swalk_paths, defBody swalk_paths, defScope swalk_paths, [], []⟩
def d_components_of : He.DefD := ⟨("components_of", none), "components_of", "components_of", defArgs scomponents_of, defBody scomponents_of, defScope scomponents_of, [], []⟩
def d_is_integer : He.DefD := ⟨("is_integer", none), "is_integer", "is_integer", defArgs sis_integer, defBody sis_integer, defScope sis_integer, [], []⟩
def d_is_within : He.DefD := ⟨("is_within", none), "is_within", "is_within", defArgs sis_within, defBody sis_within, defScope sis_within, [], []⟩
def d_is_edge : He.DefD := ⟨("is_edge", none), "is_edge", "is_edge", defArgs sis_edge, defBody sis_edge, defScope sis_edge, [], []⟩
def d_is_modulus : He.DefD := ⟨("is_modulus", none), "is_modulus", "is_modulus", defArgs sis_modulus, defBody sis_modulus, defScope sis_modulus, [], []⟩
def d_check_edges : He.DefD := ⟨("check_edges", none), "check_edges", "check_edges", defArgs scheck_edges, defBody scheck_edges, defScope scheck_edges, [], []⟩
def d_residue : He.DefD := ⟨("residue", none), "residue", "residue", defArgs sresidue, defBody sresidue, defScope sresidue, [], []⟩
def d_size_of : He.DefD := ⟨("size_of", none), "size_of", "size_of", defArgs ssize_of, defBody ssize_of, defScope ssize_of, [], []⟩
def d_is_residue : He.DefD := ⟨("is_residue", none), "is_residue", "is_residue", defArgs sis_residue, defBody sis_residue, defScope sis_residue, [], []⟩
def d_are_residues : He.DefD := ⟨("are_residues", none), "are_residues", "are_residues", defArgs sare_residues, defBody sare_residues, defScope sare_residues, [], []⟩
def d_is_gains : He.DefD := ⟨("is_gains", none), "is_gains", "is_gains", defArgs sis_gains, defBody sis_gains, defScope sis_gains, [], []⟩
def d_is_potential : He.DefD := ⟨("is_potential", none), "is_potential", "is_potential", defArgs sis_potential, defBody sis_potential, defScope sis_potential, [], []⟩
def d_check_gains : He.DefD := ⟨("check_gains", none), "check_gains", "check_gains", defArgs scheck_gains, defBody scheck_gains, defScope scheck_gains, [], []⟩
def d_check_potential : He.DefD := ⟨("check_potential", none), "check_potential", "check_potential", defArgs scheck_potential, defBody scheck_potential, defScope scheck_potential, [], []⟩
def d_check_fixed : He.DefD := ⟨("check_fixed", none), "check_fixed", "check_fixed", defArgs scheck_fixed, defBody scheck_fixed, defScope scheck_fixed, [], []⟩
def d_switched : He.DefD := ⟨("switched", none), "switched", "switched", defArgs sswitched, defBody sswitched, defScope sswitched, [], []⟩
def d_difference_rows : He.DefD := ⟨("difference_rows", none), "difference_rows", "difference_rows", defArgs sdifference_rows, defBody sdifference_rows, defScope sdifference_rows, [], []⟩
def d_system_of : He.DefD := ⟨("system_of", none), "system_of", "system_of", defArgs ssystem_of, defBody ssystem_of, defScope ssystem_of, [], []⟩
def d_leads : He.DefD := ⟨("leads", none), "leads", "leads", defArgs sleads, defBody sleads, defScope sleads, [], []⟩
def d_checked_weights : He.DefD := ⟨("checked_weights", none), "checked_weights", "checked_weights", defArgs schecked_weights, defBody schecked_weights, defScope schecked_weights, [], []⟩
def d_total_cost : He.DefD := ⟨("total_cost", none), "total_cost", "total_cost", defArgs stotal_cost, defBody stotal_cost, defScope stotal_cost, [], []⟩
def d_shifted : He.DefD := ⟨("shifted", none), "shifted", "shifted", defArgs sshifted, defBody sshifted, defScope sshifted, [], []⟩
def d_best_shift : He.DefD := ⟨("best_shift", none), "best_shift", "best_shift", defArgs sbest_shift, defBody sbest_shift, defScope sbest_shift, [], []⟩
def d_best_of : He.DefD := ⟨("best_of", none), "best_of", "best_of", defArgs sbest_of, defBody sbest_of, defScope sbest_of, [], []⟩
def d_law_pool : He.DefD := ⟨("_law_pool", none), "_law_pool", "_law_pool", defArgs slaw_pool, defBody slaw_pool, defScope slaw_pool, [], []⟩
def d_law_take : He.DefD := ⟨("_law_take", none), "_law_take", "_law_take", defArgs slaw_take, defBody slaw_take, defScope slaw_take, [], []⟩
def d_law_links : He.DefD := ⟨("_law_links", none), "_law_links", "_law_links", defArgs slaw_links, defBody slaw_links, defScope slaw_links, [], []⟩
def d_law_number : He.DefD := ⟨("_law_number", none), "_law_number", "_law_number", defArgs slaw_number, defBody slaw_number, defScope slaw_number, [], []⟩
def d_law_numbers : He.DefD := ⟨("_law_numbers", none), "_law_numbers", "_law_numbers", defArgs slaw_numbers, defBody slaw_numbers, defScope slaw_numbers, [], []⟩
def d_law_groups : He.DefD := ⟨("_law_groups", none), "_law_groups", "_law_groups", defArgs slaw_groups, defBody slaw_groups, defScope slaw_groups, [], []⟩
def d_law_lowest : He.DefD := ⟨("_law_lowest", none), "_law_lowest", "_law_lowest", defArgs slaw_lowest, defBody slaw_lowest, defScope slaw_lowest, [], []⟩
def d_law : He.DefD := ⟨("law", none), "law", "law", defArgs slaw, defBody slaw, defScope slaw, [], []⟩
def d_System_init : He.DefD := ⟨("System", some "__init__"), "__init__", "System.__init__", defArgs sSystem_init, defBody sSystem_init, defScope sSystem_init, [], []⟩
def d_System_levels : He.DefD := ⟨("System", some "levels"), "levels", "System.levels", defArgs sSystem_levels, defBody sSystem_levels, defScope sSystem_levels, [], []⟩
def d_System_bad_cycle : He.DefD := ⟨("System", some "bad_cycle"), "bad_cycle", "System.bad_cycle", defArgs sSystem_bad_cycle, defBody sSystem_bad_cycle, defScope sSystem_bad_cycle, [], []⟩
def d_System_solved : He.DefD := ⟨("System", some "solved"), "solved", "System.solved", defArgs sSystem_solved, defBody sSystem_solved, defScope sSystem_solved, [], []⟩
def d_System_free_groups : He.DefD := ⟨("System", some "free_groups"), "free_groups", "System.free_groups", defArgs sSystem_free_groups, defBody sSystem_free_groups, defScope sSystem_free_groups, [], []⟩
def d_Web_size : He.DefD := ⟨("Web", some "size"), "size", "Web.size", defArgs sWeb_size, defBody sWeb_size, defScope sWeb_size, [], []⟩
def d_Web_modulus : He.DefD := ⟨("Web", some "modulus"), "modulus", "Web.modulus", defArgs sWeb_modulus, defBody sWeb_modulus, defScope sWeb_modulus, [], []⟩
def d_Web_edges : He.DefD := ⟨("Web", some "edges"), "edges", "Web.edges", defArgs sWeb_edges, defBody sWeb_edges, defScope sWeb_edges, [], []⟩
def d_Web_len : He.DefD := ⟨("Web", some "__len__"), "__len__", "Web.__len__", defArgs sWeb_len, defBody sWeb_len, defScope sWeb_len, [], []⟩
def d_Web_init : He.DefD := ⟨("Web", some "__init__"), "__init__", "Web.__init__", defArgs sWeb_init, defBody sWeb_init, defScope sWeb_init, [.adr (He.dflAt ("Web", some "__init__") 0)], [("modulus", .int 0)]⟩
def d_cost : He.DefD := ⟨("cost", none), "cost", "cost", defArgs scost, defBody scost, defScope scost, [], [("weights", .non)]⟩
def d_cheapest : He.DefD := ⟨("cheapest", none), "cheapest", "cheapest", defArgs scheapest, defBody scheapest, defScope scheapest, [], [("weights", .non), ("fixed", .adr (kwA ("cheapest", none) "fixed"))]⟩
def d_is_cheapest : He.DefD := ⟨("is_cheapest", none), "is_cheapest", "is_cheapest", defArgs sis_cheapest, defBody sis_cheapest, defScope sis_cheapest, [], [("weights", .non), ("fixed", .adr (kwA ("is_cheapest", none) "fixed"))]⟩
def fn0 : List He.DefD := [d_reduced_number, d_forest_of, d_links_of, d_walk_paths, d_components_of, d_is_integer, d_is_within, d_is_edge, d_is_modulus, d_check_edges, d_residue, d_size_of]
def fn1 : List He.DefD := [d_is_residue, d_are_residues, d_is_gains, d_is_potential, d_check_gains, d_check_potential, d_check_fixed, d_switched, d_difference_rows, d_system_of, d_leads, d_checked_weights]
def fn2 : List He.DefD := [d_total_cost, d_shifted, d_best_shift, d_best_of, d_law_pool, d_law_take, d_law_links, d_law_number, d_law_numbers, d_law_groups, d_law_lowest, d_law]
def fn3 : List He.DefD := [d_System_init, d_System_levels, d_System_bad_cycle, d_System_solved, d_System_free_groups, d_Web_size, d_Web_modulus, d_Web_edges, d_Web_len, d_Web_init, d_cost, d_cheapest]
def fn4 : List He.DefD := [d_is_cheapest]
def fnAll : List He.DefD := fn0 ++ fn1 ++ fn2 ++ fn3 ++ fn4
def fa0 : List He.Fa := [.glo "reduced_number", .glo "forest_of", .glo "links_of", .glo "walk_paths", .glo "components_of", .glo "is_integer", .glo "is_within", .glo "is_edge", .glo "is_modulus", .glo "check_edges", .glo "residue", .glo "size_of", .glo "is_residue", .glo "are_residues", .glo "is_gains", .glo "is_potential", .glo "check_gains", .glo "check_potential", .glo "check_fixed", .glo "switched"]
def fa1 : List He.Fa := [.glo "difference_rows", .glo "system_of", .glo "leads", .glo "checked_weights", .glo "total_cost", .glo "shifted", .glo "best_shift", .glo "best_of", .glo "_law_pool", .glo "_law_take", .glo "_law_links", .glo "_law_number", .glo "_law_numbers", .glo "_law_groups", .glo "_law_lowest", .glo "law", .glo "cost", .glo "cheapest", .glo "is_cheapest", .glo "Web"]
def fa2 : List He.Fa := [.glo "System", .free "len", .free "abs", .free "min", .free "max", .free "sum", .free "all", .free "any", .free "sorted", .free "repr", .free "isinstance", .free "list", .free "set", .free "tuple", .free "int", .free "bool", .free "str", .free "range", .free "enumerate", .free "zip"]
def fa3 : List He.Fa := [.int "MOST_NODES" 30, .int "MOST_EDGES" 60, .int "MOST_MODULUS" 60, .cls "Web", .cls "System", .noat "Web" "own_size", .noat "Web" "own_edges", .noat "Web" "own_modulus", .noat "Web" "own_forest", .noat "Web" "links", .noat "System" "own_modulus", .noat "System" "rows", .noat "System" "links", .noat "System" "groups", .meth "Web" "size", .meth "Web" "modulus", .meth "Web" "edges", .meth "Web" "__len__", .meth "System" "levels", .meth "System" "bad_cycle"]
def fa4 : List He.Fa := [.meth "System" "solved", .meth "System" "free_groups", .mkr "Web", .mkr "System"]
def faAll : List He.Fa := fa0 ++ fa1 ++ fa2 ++ fa3 ++ fa4
def tfAll : List He.Defn := [("best_shift", none), ("cheapest", none)]
def exAll (K : PySem.W.Frag) : Bool := tup0 K (kwA ("is_cheapest", none) "fixed" K) && decide ((He.cT K ("best_shift", none)).2 ≠ (He.cT K ("cheapest", none)).2)
abbrev RR : PySem.W.OpenRow := PySem.W.OpenLaw.row PySem.Challenge.rw_turnedties_k29_whole_when_costs_are_lowe
abbrev qv : Program := PySem.W.view RR.prog [66]
def loose1 : List Str := RR.prog.boundNames.filter fun x => !decide (x = "law")
abbrev hk : PySem.W.Hook := He.hookX 4 faAll fnAll [] tfAll exAll
def ob (s : PySem.W.SharedT) : He.AlX := He.obsX 4 faAll fnAll [] tfAll exAll (HandSHeadRun.getT s)
theorem ob_eq (s : PySem.W.SharedT) : ob s = hk.obs s.abs := He.obsX_eq (HandSHeadRun.getT_eq s)
theorem run (w : World) : HandSHeadRun.RunEq RR qv hk ob 6000 loose1 w := by
  intro os
  kernel_rfl
end K29
namespace K29
open PySem PySem.Spec PyProof.Rows L2 LamX NdefX
section
variable {K : PySem.W.Frag} {h : Heap} {mg : Str → Option Value}
theorem defAt_of (X : K.In h) (G : h.Ns mainGlobals mg) (c : He.SaysD faAll fnAll K) (x : Str) (st : Stmt) (i j : Nat) (h1 : fnAll[i]? = some ⟨(x, none), x, x, defArgs st, defBody st, defScope st, [], []⟩) (h2 : faAll[j]? = some (.glo x)) : DefAt K mg x st := by
  obtain ⟨fd, F⟩ := c.def_ i h1
  exact ⟨_, fd, F, He.glo_ok X G (c.fact j h2)⟩
theorem metAt_of (c : He.SaysD faAll fnAll K) (x m q : Str) (st : Stmt) (i j k : Nat) (h1 : fnAll[i]? = some ⟨(x, some m), m, q, defArgs st, defBody st, defScope st, [], []⟩) (h2 : faAll[j]? = some (.cls x)) (h3 : faAll[k]? = some (.meth x m)) : MetAt K (He.ga K x) m q st := by
  obtain ⟨fd, F⟩ := c.def_ i h1
  exact ⟨_, fd, He.cls_ok (c.fact j h2), He.meth_ok (c.fact k h3), F⟩
theorem code_of {x qual : Str} {params : Arguments} {body : List Stmt} {scope : Scope} {dvs : List V} {kws : List (Str × V)} {p : Str × Option Str} {fd : FuncData} (F : FunD K x qual params body scope dvs kws (He.fAd K p) fd) : fd.code = .ref (He.cT K p).1 := by
  obtain ⟨oc, od, dV, kV, doc, pm, an, cdv, ct, osl, rfl, lk, hcd, _, _⟩ := F.ex
  obtain ⟨c', e⟩ := He.codeIn_ref hcd
  have e : (PySem.W.fnOf x qual params body scope dV kV doc pm an cdv ct).code = .ref c' := e
  rw [e]
  exact congrArg Value.ref (He.codeOf_eq lk e).symm
theorem bn_of (X : K.In h) (G : h.Ns mainGlobals mg) (c : He.SaysD faAll fnAll K) : Bn mg :=
  ⟨He.free_ok X G (c.fact 41 (f := .free "len") rfl), He.free_ok X G (c.fact 42 (f := .free "abs") rfl), He.free_ok X G (c.fact 43 (f := .free "min") rfl), He.free_ok X G (c.fact 44 (f := .free "max") rfl), He.free_ok X G (c.fact 45 (f := .free "sum") rfl), He.free_ok X G (c.fact 46 (f := .free "all") rfl), He.free_ok X G (c.fact 47 (f := .free "any") rfl), He.free_ok X G (c.fact 48 (f := .free "sorted") rfl), He.free_ok X G (c.fact 49 (f := .free "repr") rfl), He.free_ok X G (c.fact 50 (f := .free "isinstance") rfl), He.free_ok X G (c.fact 51 (f := .free "list") rfl), He.free_ok X G (c.fact 52 (f := .free "set") rfl), He.free_ok X G (c.fact 53 (f := .free "tuple") rfl), He.free_ok X G (c.fact 54 (f := .free "int") rfl), He.free_ok X G (c.fact 55 (f := .free "bool") rfl), He.free_ok X G (c.fact 56 (f := .free "str") rfl), He.free_ok X G (c.fact 57 (f := .free "range") rfl), He.free_ok X G (c.fact 58 (f := .free "enumerate") rfl), He.free_ok X G (c.fact 59 (f := .free "zip") rfl)⟩
theorem nums_of (X : K.In h) (G : h.Ns mainGlobals mg) (c : He.SaysD faAll fnAll K) : Nums mg :=
  ⟨He.int_ok X G (c.fact 60 (f := .int "MOST_NODES" 30) rfl), He.int_ok X G (c.fact 61 (f := .int "MOST_EDGES" 60) rfl), He.int_ok X G (c.fact 62 (f := .int "MOST_MODULUS" 60) rfl)⟩
theorem sysC_of (c : He.SaysD faAll fnAll K) : SysC K (He.ga K "System") :=
  ⟨He.cls_ok (c.fact 64 (f := .cls "System") rfl), He.noat_ok (c.fact 70 (f := .noat "System" "own_modulus") rfl), He.noat_ok (c.fact 71 (f := .noat "System" "rows") rfl), He.noat_ok (c.fact 72 (f := .noat "System" "links") rfl), He.noat_ok (c.fact 73 (f := .noat "System" "groups") rfl)⟩
theorem webC_of (c : He.SaysD faAll fnAll K) : WebC K (He.ga K "Web") :=
  ⟨He.cls_ok (c.fact 63 (f := .cls "Web") rfl), He.noat_ok (c.fact 65 (f := .noat "Web" "own_size") rfl), He.noat_ok (c.fact 66 (f := .noat "Web" "own_edges") rfl), He.noat_ok (c.fact 67 (f := .noat "Web" "own_modulus") rfl), He.noat_ok (c.fact 68 (f := .noat "Web" "own_forest") rfl), He.noat_ok (c.fact 69 (f := .noat "Web" "links") rfl)⟩
theorem makSys_of (X : K.In h) (G : h.Ns mainGlobals mg) (c : He.SaysD faAll fnAll K) : MakAt K (He.ga K "System") mg "System" "System.__init__" sSystem_init := by
  obtain ⟨fd, F⟩ := c.def_ 36 (d := d_System_init) rfl
  exact ⟨_, fd, He.mkr_ok (c.fact 83 (f := .mkr "System") rfl), F, He.glo_ok X G (c.fact 40 (f := .glo "System") rfl)⟩
theorem makWeb_of (X : K.In h) (G : h.Ns mainGlobals mg) (c : He.SaysD faAll fnAll K) : WebMakAt K (He.ga K "Web") mg := by
  obtain ⟨fd, F⟩ := c.def_ 45 (d := d_Web_init) rfl
  exact ⟨_, fd, _, He.mkr_ok (c.fact 82 (f := .mkr "Web") rfl), F, He.glo_ok X G (c.fact 39 (f := .glo "Web") rfl)⟩
theorem cost_of (X : K.In h) (G : h.Ns mainGlobals mg) (c : He.SaysD faAll fnAll K) : DefKw K mg "cost" scost [("weights", .non)] := by
  obtain ⟨fd, F⟩ := c.def_ 46 (d := d_cost) rfl
  exact ⟨_, fd, F, He.glo_ok X G (c.fact 36 (f := .glo "cost") rfl)⟩
abbrev fxK (K : PySem.W.Frag) : Addr := kwA ("is_cheapest", none) "fixed" K
theorem isch_of (X : K.In h) (G : h.Ns mainGlobals mg) (c : He.SaysD faAll fnAll K) : DefKw K mg "is_cheapest" sis_cheapest [("weights", .non), ("fixed", .ref (fxK K))] := by
  obtain ⟨fd, F⟩ := c.def_ 48 (d := d_is_cheapest) rfl
  exact ⟨_, fd, F, He.glo_ok X G (c.fact 38 (f := .glo "is_cheapest") rfl)⟩
theorem cheap_of (X : K.In h) (G : h.Ns mainGlobals mg) (c : He.SaysD faAll fnAll K) : DefKwC K mg "cheapest" scheapest [("weights", .non), ("fixed", .ref (kwA ("cheapest", none) "fixed" K))] (He.cT K ("cheapest", none)).1 := by
  obtain ⟨fd, F⟩ := c.def_ 47 (d := d_cheapest) rfl
  exact ⟨_, fd, F, He.glo_ok X G (c.fact 37 (f := .glo "cheapest") rfl), code_of (p := ("cheapest", none)) F⟩
theorem bsh_of (X : K.In h) (G : h.Ns mainGlobals mg) (c : He.SaysD faAll fnAll K) : DefAtC K mg "best_shift" sbest_shift (He.cT K ("best_shift", none)).1 := by
  obtain ⟨fd, F⟩ := c.def_ 26 (d := d_best_shift) rfl
  exact ⟨_, fd, F, He.glo_ok X G (c.fact 26 (f := .glo "best_shift") rfl), code_of (p := ("best_shift", none)) F⟩
end
/-- the tables and their names -/
def TT (K : PySem.W.Frag) : List NTab := [((He.cT K ("best_shift", none)).2, fun _ _ => qualB), ((He.cT K ("cheapest", none)).2, fun _ _ => qualC)]
def csK (K : PySem.W.Frag) : List (Addr × Addr) := [He.cT K ("best_shift", none), He.cT K ("cheapest", none)]
theorem tup0_ok {K : PySem.W.Frag} {a : Addr} (h : tup0 K a = true) (H : Hp) : SqT K H a [] := by
  unfold tup0 at h
  cases e : K.lookup a with
  | none =>
    rw [e] at h
    cases h
  | some o =>
    rw [e] at h
    obtain ⟨oc, od, dt, osl⟩ := o
    cases oc with
    | type c =>
      cases dt with
      | seq its n =>
        obtain ⟨h1, h2⟩ := He.ba (show (decide (c = "tuple") && its.isEmpty) = true from h)
        have h1 := of_decide_eq_true h1
        subst h1
        have h2 := Array.isEmpty_iff.mp h2
        subst h2
        exact .inr ⟨_, #[], n, e, rfl, rfl, Nat.zero_le _, .nil⟩
      | _ => cases h
    | _ => cases h
section
variable {P : Program} {w : World} {K : PySem.W.Frag} {h : Heap} {mg : Str → Option Value}
theorem law_cals {base : Heap} (X : K.In h) (G : h.Ns mainGlobals mg) (c : He.SaysD faAll fnAll K) (ex : exAll K = true) (TB : ∀ p ∈ csK K, TabB base mg p.1 p.2) : LawCals P w K mg base (He.ga K "Web") (TT K) (.ref (fxK K)) := by
  have B := bn_of X G c
  have N := nums_of X G c
  have SC := sysC_of c
  have WC := webC_of c
  have ne : (He.cT K ("best_shift", none)).2 ≠ (He.cT K ("cheapest", none)).2 := of_decide_eq_true (He.ba ex).2
  have TF1 : TabF base mg (TT K) (He.cT K ("best_shift", none)).1 (He.cT K ("best_shift", none)).2 qualB := ⟨TB _ List.mem_cons_self, List.mem_cons_self, fun p hp e => by
    rcases List.mem_cons.mp hp with z | z
    · rw [z]
    · rw [List.mem_singleton.mp z] at e
      exact absurd e.symm ne⟩
  have TF2 : TabF base mg (TT K) (He.cT K ("cheapest", none)).1 (He.cT K ("cheapest", none)).2 qualC := ⟨TB _ (List.mem_cons_of_mem _ List.mem_cons_self), List.mem_cons_of_mem _ List.mem_cons_self, fun p hp e => by
    rcases List.mem_cons.mp hp with z | z
    · rw [z] at e
      exact absurd e ne
    · rw [List.mem_singleton.mp z]⟩
  have cr : C8.Cal P w K mg base 1 "reduced_number" spReduced [] := cal_reduced (defAt_of X G c "reduced_number" sreduced_number 0 0 rfl rfl)
  have ci : C8.Cal P w K mg base 1 "is_integer" spIsInt [] := cal_isint B (defAt_of X G c "is_integer" sis_integer 5 5 rfl rfl)
  have cw : C8.Cal P w K mg base 2 "is_within" spWithin [] := cal_within ci (defAt_of X G c "is_within" sis_within 6 6 rfl rfl)
  have ct : C8.Cal P w K mg base 1 "_law_take" spTake [] := cal_take (defAt_of X G c "_law_take" slaw_take 29 29 rfl rfl)
  have cpo : C8.Cal P w K mg base 1 "_law_pool" (spPool K) [] := cal_pool B (defAt_of X G c "_law_pool" slaw_pool 28 28 rfl rfl)
  have cli : C8.Cal P w K mg base 2 "_law_links" spLinks [] := cal_links B ct (defAt_of X G c "_law_links" slaw_links 30 30 rfl rfl)
  have cnu : C8.Cal P w K mg base 2 "_law_number" spNumber [] := cal_number ct (defAt_of X G c "_law_number" slaw_number 31 31 rfl rfl)
  have cns : C8.Cal P w K mg base 3 "_law_numbers" spNumbers [] := cal_numbers B cnu (defAt_of X G c "_law_numbers" slaw_numbers 32 32 rfl rfl)
  have cgr : C8.Cal P w K mg base 1 "_law_groups" spGroups [] := cal_groups B (defAt_of X G c "_law_groups" slaw_groups 33 33 rfl rfl)
  have clo : C8.Cal P w K mg base 2 "_law_lowest" spLowest [] := cal_lowest B cgr (defAt_of X G c "_law_lowest" slaw_lowest 34 34 rfl rfl)
  have cfo : C8.Cal P w K mg base 1 "forest_of" spForest [] := cal_forest B (defAt_of X G c "forest_of" sforest_of 1 1 rfl rfl)
  have clk : C8.Cal P w K mg base 1 "links_of" spLinksOf [] := cal_links_of B (defAt_of X G c "links_of" slinks_of 2 2 rfl rfl)
  have cpa : C8.Cal P w K mg base 1 "walk_paths" spPaths [] := cal_paths (defAt_of X G c "walk_paths" swalk_paths 3 3 rfl rfl)
  have cco : C8.Cal P w K mg base 2 "components_of" spComps [] := cal_comps B cpa (defAt_of X G c "components_of" scomponents_of 4 4 rfl rfl)
  have mle : C8.Met P w K mg base 2 (He.ga K "System") "levels" (spLevels (He.ga K "System")) [] := met_levels B SC cr cpa (metAt_of c "System" "levels" "System.levels" sSystem_levels 37 64 78 rfl rfl rfl)
  have mks : C8.Mak P w K mg base 3 "System" (He.ga K "System") (spSysInit (He.ga K "System")) [] := mak_sys SC cfo clk cco (makSys_of X G c)
  have mba : C8.Met P w K mg base 3 (He.ga K "System") "bad_cycle" (spBad (He.ga K "System")) [] := met_bad B SC cr mle (metAt_of c "System" "bad_cycle" "System.bad_cycle" sSystem_bad_cycle 38 64 79 rfl rfl rfl)
  have mso : C8.Met P w K mg base 4 (He.ga K "System") "solved" (spSolved K (He.ga K "System")) [] := met_solved B SC mle mba (metAt_of c "System" "solved" "System.solved" sSystem_solved 39 64 80 rfl rfl rfl)
  have mfr : C8.Met P w K mg base 1 (He.ga K "System") "free_groups" (spFree K (He.ga K "System")) [] := met_free B SC (metAt_of c "System" "free_groups" "System.free_groups" sSystem_free_groups 40 64 81 rfl rfl rfl)
  have cie : C8.Cal P w K mg base 3 "is_edge" spIsEdge [] := cal_isedge B cw (defAt_of X G c "is_edge" sis_edge 7 7 rfl rfl)
  have cim : C8.Cal P w K mg base 3 "is_modulus" spIsMod [] := cal_ismod N cw (defAt_of X G c "is_modulus" sis_modulus 8 8 rfl rfl)
  have cce : C8.Cal P w K mg base 4 "check_edges" spChkE [] := cal_chke B N cie (defAt_of X G c "check_edges" scheck_edges 9 9 rfl rfl)
  have mkw : C8.Mak P w K mg base 5 "Web" (He.ga K "Web") (spWebInit (He.ga K "Web")) [.int 0] := mak_web B N WC cw cce cim cfo clk (makWeb_of X G c)
  have wsi : C8.Met P w K mg base 1 (He.ga K "Web") "size" (spWS (He.ga K "Web")) [] := met_size WC (metAt_of c "Web" "size" "Web.size" sWeb_size 41 63 74 rfl rfl rfl)
  have wmo : C8.Met P w K mg base 1 (He.ga K "Web") "modulus" (spWM (He.ga K "Web")) [] := met_modulus WC (metAt_of c "Web" "modulus" "Web.modulus" sWeb_modulus 42 63 75 rfl rfl rfl)
  have wed : C8.Met P w K mg base 1 (He.ga K "Web") "edges" (spWE (He.ga K "Web")) [] := met_edges B WC (metAt_of c "Web" "edges" "Web.edges" sWeb_edges 43 63 76 rfl rfl rfl)
  have wle : C8.Met P w K mg base 1 (He.ga K "Web") "__len__" (spWL (He.ga K "Web")) [] := met_wlen B WC (metAt_of c "Web" "__len__" "Web.__len__" sWeb_len 44 63 77 rfl rfl rfl)
  have cre : C8.Cal P w K mg base 2 "residue" (spResidue (He.ga K "Web")) [] := cal_residue ci cr wmo (defAt_of X G c "residue" sresidue 10 10 rfl rfl)
  have csz : C8.Cal P w K mg base 3 "size_of" (spSizeOf (He.ga K "Web")) [] := cal_sizeof B cre wmo (defAt_of X G c "size_of" ssize_of 11 11 rfl rfl)
  have cir : C8.Cal P w K mg base 3 "is_residue" (spIsRes (He.ga K "Web")) [] := cal_isres ci cw wmo (defAt_of X G c "is_residue" sis_residue 12 12 rfl rfl)
  have car : C8.Cal P w K mg base 4 "are_residues" (spAreRes (He.ga K "Web")) [] := cal_areres B cir (defAt_of X G c "are_residues" sare_residues 13 13 rfl rfl)
  have cig : C8.Cal P w K mg base 5 "is_gains" (spIsG (He.ga K "Web")) [] := cal_isgains B car wle (defAt_of X G c "is_gains" sis_gains 14 14 rfl rfl)
  have cip : C8.Cal P w K mg base 5 "is_potential" (spIsP (He.ga K "Web")) [] := cal_ispot car wsi (defAt_of X G c "is_potential" sis_potential 15 15 rfl rfl)
  have ccg : C8.Cal P w K mg base 6 "check_gains" (spChkG (He.ga K "Web")) [] := cal_chkg cig (defAt_of X G c "check_gains" scheck_gains 16 16 rfl rfl)
  have ccp : C8.Cal P w K mg base 6 "check_potential" (spChkP (He.ga K "Web")) [] := cal_chkp cip (defAt_of X G c "check_potential" scheck_potential 17 17 rfl rfl)
  have ccf : C8.Cal P w K mg base 3 "check_fixed" (spChkF K (He.ga K "Web")) [] := cal_chkf B cw wsi (defAt_of X G c "check_fixed" scheck_fixed 18 18 rfl rfl)
  have csw : C8.Cal P w K mg base 7 "switched" (spSwitched (He.ga K "Web")) [] := cal_switched B ccg ccp cre wed (defAt_of X G c "switched" sswitched 19 19 rfl rfl)
  have cdi : C8.Cal P w K mg base 2 "difference_rows" (spDiff (He.ga K "Web")) [] := cal_diff wed (defAt_of X G c "difference_rows" sdifference_rows 20 20 rfl rfl)
  have cso : C8.Cal P w K mg base 5 "system_of" (spSysOf (He.ga K "Web") (He.ga K "System")) [] := cal_sysof B cdi wsi wmo wle mks (defAt_of X G c "system_of" ssystem_of 21 21 rfl rfl)
  have cle : C8.Cal P w K mg base 8 "leads" (spLeads K (He.ga K "Web")) [] := cal_leads B cip csw (defAt_of X G c "leads" sleads 22 22 rfl rfl)
  have ccw : C8.Cal P w K mg base 2 "checked_weights" (spCW (He.ga K "Web")) [] := cal_cw B ci wsi (defAt_of X G c "checked_weights" schecked_weights 23 23 rfl rfl)
  have cto : C8.Cal P w K mg base 4 "total_cost" (spTotal (He.ga K "Web")) [] := cal_total B csz (defAt_of X G c "total_cost" stotal_cost 24 24 rfl rfl)
  have cst : CalK P w K mg base 7 "cost" (spCost (He.ga K "Web")) 2 ["weights"] (fun vs zs => vs ++ zs) := cal_cost B ccp ccw cto wsi (cost_of X G c)
  have csh : C8.Cal P w K mg base 3 "shifted" (spShift (He.ga K "Web")) [] := cal_shift B cre (defAt_of X G c "shifted" sshifted 25 25 rfl rfl)
  have cbs : C8.Cal P w K mg base 8 "best_shift" (spBShift (He.ga K "Web") (TT K)) [] := cal_bshift B TF1 cto csh wmo (bsh_of X G c)
  have cbo : C8.Cal P w K mg base 9 "best_of" (spBestOf K (He.ga K "Web") (He.ga K "System") (TT K)) [] := cal_bestof B cto mso mfr cbs wsi (defAt_of X G c "best_of" sbest_of 27 27 rfl rfl)
  have cch : CalK P w K mg base 10 "cheapest" (spCheap K (He.ga K "Web") (TT K)) 3 ["weights", "fixed"] (fun vs zs => vs ++ zs) := cal_cheap TF2 ccg ccw ccf cso cbo (cheap_of X G c)
  have cis : CalK P w K mg base 11 "is_cheapest" (spIsCh K (He.ga K "Web") (TT K)) 4 ["weights"] (fun vs zs => vs ++ (zs ++ [.ref (fxK K)])) := cal_isch B ci cch cle cst (isch_of X G c)
  exact ⟨cpo, ct, cli, mkw, cns, cst, clo, csw, cis⟩
theorem law_at (X : K.In h) (G : h.Ns mainGlobals mg) (c : He.SaysX faAll fnAll [] tfAll exAll w h K) {fa : Addr} (hm : mg ("law" : Str) = some (.ref fa)) : LamX.LawAtS PySem.Challenge.rw_turnedties_k29_whole_when_costs_are_lowe w K C8.CX0 12 63 "_law_script" mg fa h := by
  have cd := c.t.d
  obtain ⟨fd, F⟩ := cd.def_ 35 (d := d_law) rfl
  have e := hm.symm.trans (He.glo_ok X G (cd.fact 35 (f := .glo "law") rfl))
  cases e
  have inT : ∀ p ∈ csK K, ∃ q ∈ tfAll, p = He.cT K q := fun p hp => by
    rcases List.mem_cons.mp hp with z | z
    · exact ⟨_, List.mem_cons_self, z⟩
    · exact ⟨_, List.mem_cons_of_mem _ List.mem_cons_self, List.mem_singleton.mp z⟩
  refine ⟨fd, csK K, spLaw K (TT K), fun p hp => ?_, fun p hp => ?_, fun p hp => ?_, fun s u => FunD.bindsA (ps := ["_law_script"]) F (fun _ _ _ _ _ _ us hl => match us, hl with | [_], _ => rfl) s [u] rfl, fun H a ns hl _ hC hS => ?_, fun base hb hn TB => ?_⟩
  · obtain ⟨q, hq, rfl⟩ := inT p hp
    exact c.empty q hq
  · obtain ⟨q, hq, rfl⟩ := inT p hp
    exact c.out q hq
  · obtain ⟨q, hq, rfl⟩ := inT p hp
    exact PySem.W.codeHd_of_K X (c.hd q hq)
  · refine ⟨a, ns, rfl, hS, by omega, fun p hp => ?_, fun _ => rfl⟩
    rcases List.mem_cons.mp hp with z | z
    · rw [z]
      exact TabN.nil (hC _ List.mem_cons_self)
    · rw [List.mem_singleton.mp z]
      exact TabN.nil (hC _ (List.mem_cons_of_mem _ List.mem_cons_self))
  · have L := law_cals (P := PySem.Challenge.rw_turnedties_k29_whole_when_costs_are_lowe.prog) (w := w) (base := base) X G cd c.more TB
    refine F.ok sclaw (fun vs H Q E z => ?_) (fun cdv A outer s H vs Q E hr z => ?_)
    · obtain ⟨a, ns, rfl, _⟩ := z
      rfl
    · obtain ⟨t, t1, t2⟩ := law_body (bn_of X G cd) L (fun H => tup0_ok (He.ba c.more).1 H) _ cdv A outer s H vs Q E hr z
      exact ⟨t, t1.nox, t2⟩
end
end K29
open PySem PySem.W PySem.Calls PyProof.Rows
theorem PySem.Challenge.cw_turnedties_k29_whole_when_costs_are_lowe_holds : PySem.Challenge.rw_turnedties_k29_whole_when_costs_are_lowe.Holds := by
  w_on; o_law
  refine HandSHeadRun.head_any (r := OpenLaw.row PySem.Challenge.rw_turnedties_k29_whole_when_costs_are_lowe) (q := K29.qv) (H := K29.hk) (ob := K29.ob) (M := 6000) (loose := K29.loose1) (d := HandSHeadRun.topDef (OpenLaw.row PySem.Challenge.rw_turnedties_k29_whole_when_costs_are_lowe).prog 66) (kwd := []) K29.ob_eq
    (by kernel_rfl) (fun s => by kernel_rfl) K29.run (by kernel_rfl) (by kernel_rfl) (by kernel_rfl) (by rfl) (by first | assumption | decide +kernel) (by decide +kernel) ⟨rfl, rfl, rfl, rfl, rfl, by decide +kernel⟩ ?hw ?hc
  case hw => w_witness2
  case hc =>
    refine LamX.walk_ofTsE (l := PySem.Challenge.rw_turnedties_k29_whole_when_costs_are_lowe) (n := 63) (k := 12) (x := "_law_script") (CX := fun _ => C8.CX0) rfl (by decide) (by kernel_rfl) ⟨rfl, by decide, by decide⟩ ?F (fun _ _ _ _ _ z => z)
    intro w mg fa h Y G hmg0
    obtain ⟨K, KX, c⟩ := Y
    have hmg : mg ("law" : PySem.Str) = some (.ref fa) := by
      have e : (HandSHeadRun.topDef (OpenLaw.row PySem.Challenge.rw_turnedties_k29_whole_when_costs_are_lowe).prog 66).name = ("law" : PySem.Str) := by kernel_rfl
      rw [← e]
      exact hmg0
    exact ⟨K, KX, K29.law_at KX G c hmg⟩
