import PyProof.Rows.All
import PySem.Challenge.RW_lockedout_k90_whole_a_sender_and_its_key
import Wide.All
import OpenK.AllK
import Wide.FinOn
import HandS.Base
import HandS.Call
import HandS.Ends
import HandS.Words
import HandS.Defaults
import HandS.Exc
import HandS.HeadHook1
import HandS.HeadHook2
import KE.KStateDown
import KE.KExcSuper
import KE.KExcInit
import KE.KIsAll
import KE.KTryMore
import HandS.ExcIs
import HandS.Slots
import HandS.SlotsOwn
import Lean
import HandS.Head0
import HandS.Head1
import HandS.Head2
import HandS.HeadEnd
import HandS.ForMost
import HandS.ForExc
import HandS.Star
import HandS.MakeKw
import HandS.MakeKwOnly
import HandS.IsInst
import HandS.Zip
import KE.SortData
import KE.OsSortAny
import KE.GoesMore
import KE.GoesEnum
import HandS.Walk
import HandS.Set
import HandS.SetFor
import HandS.SetTxt0
import KE.KSuperObj
import HandS.ExcInit
import HandS.ExcOwn
import PyProof.InstNe
import HandS.TupMul
import HandS.Flow
import KE.KExcIs
import HandS.ExcValue
import HandS.ExcField
import HandS.OwnEq
import HandS.Conv
import HandS.TupAny
import HandS.Style
section
set_option Elab.async false
set_option linter.all false
set_option maxRecDepth 100000
set_option maxHeartbeats 4000000
/-! the text by places -/
namespace K90
open PySem L2
abbrev prg : Program := PySem.Challenge.pw_lockedout_k90_whole_a_sender_and_its_key
def top (i : Nat) : Stmt := prg.main.body.getD i (.Pass ⟨0, 0, 0, 0⟩)
abbrev s_NoBox_init : Stmt := inClass (top 3) 0
abbrev s_NoKey_init : Stmt := inClass (top 4) 0
abbrev s_IsOut_init : Stmt := inClass (top 5) 0
abbrev s_NotOut_init : Stmt := inClass (top 6) 0
abbrev s_Full_init : Stmt := inClass (top 7) 0
abbrev s_tupled : Stmt := top 9
abbrev N_tupled : List Str := ["thing", "part"]
theorem sc_tupled : FnScope N_tupled ["thing"] (defScope s_tupled) := ⟨rfl, rfl, rfl, by decide +kernel, rfl, by decide +kernel, by decide +kernel⟩
abbrev s_Tree_init : Stmt := inClass (top 11) 1
abbrev N_Tree_init : List Str := ["self", "tree"]
theorem sc_Tree_init : FnScope N_Tree_init ["self", "tree"] (defScope s_Tree_init) := ⟨rfl, rfl, rfl, by decide +kernel, rfl, by decide +kernel, by decide +kernel⟩
abbrev s_Tree_grown : Stmt := inClass (top 11) 2
abbrev N_Tree_grown : List Str := ["self", "tree", "node", "sides"]
theorem sc_Tree_grown : FnScope N_Tree_grown ["self", "tree"] (defScope s_Tree_grown) := ⟨rfl, rfl, rfl, by decide +kernel, rfl, by decide +kernel, by decide +kernel⟩
abbrev s_Tree_head : Stmt := inClass (top 11) 3
abbrev N_Tree_head : List Str := ["self"]
theorem sc_Tree_head : FnScope N_Tree_head ["self"] (defScope s_Tree_head) := ⟨rfl, rfl, rfl, by decide +kernel, rfl, by decide +kernel, by decide +kernel⟩
abbrev s_Tree_boxes : Stmt := inClass (top 11) 4
abbrev N_Tree_boxes : List Str := ["self"]
theorem sc_Tree_boxes : FnScope N_Tree_boxes ["self"] (defScope s_Tree_boxes) := ⟨rfl, rfl, rfl, by decide +kernel, rfl, by decide +kernel, by decide +kernel⟩
abbrev s_Tree_nodes : Stmt := inClass (top 11) 5
abbrev N_Tree_nodes : List Str := ["self"]
theorem sc_Tree_nodes : FnScope N_Tree_nodes ["self"] (defScope s_Tree_nodes) := ⟨rfl, rfl, rfl, by decide +kernel, rfl, by decide +kernel, by decide +kernel⟩
abbrev s_Tree_sides : Stmt := inClass (top 11) 6
abbrev N_Tree_sides : List Str := ["self", "node"]
theorem sc_Tree_sides : FnScope N_Tree_sides ["self", "node"] (defScope s_Tree_sides) := ⟨rfl, rfl, rfl, by decide +kernel, rfl, by decide +kernel, by decide +kernel⟩
abbrev s_Tree_names : Stmt := inClass (top 11) 9
abbrev N_Tree_names : List Str := ["self", "node"]
theorem sc_Tree_names : FnScope N_Tree_names ["self", "node"] (defScope s_Tree_names) := ⟨rfl, rfl, rfl, by decide +kernel, rfl, by decide +kernel, by decide +kernel⟩
abbrev s_boxes_in : Stmt := top 12
abbrev N_boxes_in : List Str := ["tree"]
theorem sc_boxes_in : FnScope N_boxes_in ["tree"] (defScope s_boxes_in) := ⟨rfl, rfl, rfl, by decide +kernel, rfl, by decide +kernel, by decide +kernel⟩
abbrev s_whole : Stmt := top 15
abbrev N_whole : List Str := ["own"]
theorem sc_whole : FnScope N_whole ["own"] (defScope s_whole) := ⟨rfl, rfl, rfl, by decide +kernel, rfl, by decide +kernel, by decide +kernel⟩
abbrev s_Locked_init : Stmt := inClass (top 17) 1
abbrev N_Locked_init : List Str := ["self", "tree", "out", "number", "box"]
theorem sc_Locked_init : FnScope N_Locked_init ["self", "tree", "out"] (defScope s_Locked_init) := ⟨rfl, rfl, rfl, by decide +kernel, rfl, by decide +kernel, by decide +kernel⟩
abbrev s_Locked_has_any : Stmt := inClass (top 17) 2
abbrev N_Locked_has_any : List Str := ["self", "node", "number"]
theorem sc_Locked_has_any : FnScope N_Locked_has_any ["self", "node"] (defScope s_Locked_has_any) := ⟨rfl, rfl, rfl, by decide +kernel, rfl, by decide +kernel, by decide +kernel⟩
abbrev s_Locked_torn_sides : Stmt := inClass (top 17) 3
abbrev N_Locked_torn_sides : List Str := ["self", "node", "side"]
theorem sc_Locked_torn_sides : FnScope N_Locked_torn_sides ["self", "node"] (defScope s_Locked_torn_sides) := ⟨rfl, rfl, rfl, by decide +kernel, rfl, by decide +kernel, by decide +kernel⟩
abbrev s_Locked_row_from : Stmt := inClass (top 17) 4
abbrev N_Locked_row_from : List Str := ["self", "node", "found", "some"]
theorem sc_Locked_row_from : FnScope N_Locked_row_from ["self", "node"] (defScope s_Locked_row_from) := ⟨rfl, rfl, rfl, by decide +kernel, rfl, by decide +kernel, by decide +kernel⟩
abbrev s_Locked_rows : Stmt := inClass (top 17) 5
abbrev N_Locked_rows : List Str := ["self", "found", "waiting", "row"]
theorem sc_Locked_rows : FnScope N_Locked_rows ["self"] (defScope s_Locked_rows) := ⟨rfl, rfl, rfl, by decide +kernel, rfl, by decide +kernel, by decide +kernel⟩
abbrev s_Locked_parts : Stmt := inClass (top 17) 6
abbrev N_Locked_parts : List Str := ["self", "row"]
theorem sc_Locked_parts : FnScope N_Locked_parts ["self"] (defScope s_Locked_parts) := ⟨rfl, rfl, rfl, by decide +kernel, rfl, by decide +kernel, by decide +kernel⟩
abbrev s_least_header : Stmt := top 18
abbrev N_least_header : List Str := ["tree", "out"]
theorem sc_least_header : FnScope N_least_header ["tree", "out"] (defScope s_least_header) := ⟨rfl, rfl, rfl, by decide +kernel, rfl, by decide +kernel, by decide +kernel⟩
abbrev s_Sender_init : Stmt := inClass (top 21) 1
abbrev N_Sender_init : List Str := ["self", "tree", "limit"]
theorem sc_Sender_init : FnScope N_Sender_init ["self", "tree", "limit"] (defScope s_Sender_init) := ⟨rfl, rfl, rfl, by decide +kernel, rfl, by decide +kernel, by decide +kernel⟩
abbrev s_Sender_eq : Stmt := inClass (top 21) 2
abbrev N_Sender_eq : List Str := ["self", "other"]
theorem sc_Sender_eq : FnScope N_Sender_eq ["self", "other"] (defScope s_Sender_eq) := ⟨rfl, rfl, rfl, by decide +kernel, rfl, by decide +kernel, by decide +kernel⟩
abbrev s_Sender_state : Stmt := inClass (top 21) 3
abbrev N_Sender_state : List Str := ["self"]
theorem sc_Sender_state : FnScope N_Sender_state ["self"] (defScope s_Sender_state) := ⟨rfl, rfl, rfl, by decide +kernel, rfl, by decide +kernel, by decide +kernel⟩
abbrev s_Sender_check_box : Stmt := inClass (top 21) 4
abbrev N_Sender_check_box : List Str := ["self", "box"]
theorem sc_Sender_check_box : FnScope N_Sender_check_box ["self", "box"] (defScope s_Sender_check_box) := ⟨rfl, rfl, rfl, by decide +kernel, rfl, by decide +kernel, by decide +kernel⟩
abbrev s_Sender_out : Stmt := inClass (top 21) 5
abbrev N_Sender_out : List Str := ["self"]
theorem sc_Sender_out : FnScope N_Sender_out ["self"] (defScope s_Sender_out) := ⟨rfl, rfl, rfl, by decide +kernel, rfl, by decide +kernel, by decide +kernel⟩
abbrev s_Sender_header : Stmt := inClass (top 21) 6
abbrev N_Sender_header : List Str := ["self"]
theorem sc_Sender_header : FnScope N_Sender_header ["self"] (defScope s_Sender_header) := ⟨rfl, rfl, rfl, by decide +kernel, rfl, by decide +kernel, by decide +kernel⟩
abbrev s_Sender_parts_for : Stmt := inClass (top 21) 7
abbrev N_Sender_parts_for : List Str := ["self", "out"]
theorem sc_Sender_parts_for : FnScope N_Sender_parts_for ["self", "out"] (defScope s_Sender_parts_for) := ⟨rfl, rfl, rfl, by decide +kernel, rfl, by decide +kernel, by decide +kernel⟩
abbrev s_Sender_turn : Stmt := inClass (top 21) 8
abbrev N_Sender_turn : List Str := ["self", "deed", "out", "many"]
theorem sc_Sender_turn : FnScope N_Sender_turn ["self", "deed", "out"] (defScope s_Sender_turn) := ⟨rfl, rfl, rfl, by decide +kernel, rfl, by decide +kernel, by decide +kernel⟩
abbrev s_Sender_lock : Stmt := inClass (top 21) 9
abbrev N_Sender_lock : List Str := ["self", "box"]
theorem sc_Sender_lock : FnScope N_Sender_lock ["self", "box"] (defScope s_Sender_lock) := ⟨rfl, rfl, rfl, by decide +kernel, rfl, by decide +kernel, by decide +kernel⟩
abbrev s_Sender_let : Stmt := inClass (top 21) 10
abbrev N_Sender_let : List Str := ["self", "box", "own"]
theorem sc_Sender_let : FnScope N_Sender_let ["self", "box"] (defScope s_Sender_let) := ⟨rfl, rfl, rfl, by decide +kernel, rfl, by decide +kernel, by decide +kernel⟩
abbrev s_Sender_sent : Stmt := inClass (top 21) 11
abbrev N_Sender_sent : List Str := ["self", "out"]
theorem sc_Sender_sent : FnScope N_Sender_sent ["self"] (defScope s_Sender_sent) := ⟨rfl, rfl, rfl, by decide +kernel, rfl, by decide +kernel, by decide +kernel⟩
abbrev s_Sender_keys : Stmt := inClass (top 21) 12
abbrev N_Sender_keys : List Str := ["self", "box", "number", "out"]
theorem sc_Sender_keys : FnScope N_Sender_keys ["self", "box"] (defScope s_Sender_keys) := ⟨rfl, rfl, rfl, by decide +kernel, rfl, by decide +kernel, by decide +kernel⟩
abbrev s_Sender_who : Stmt := inClass (top 21) 13
abbrev N_Sender_who : List Str := ["self", "number", "box"]
theorem sc_Sender_who : FnScope N_Sender_who ["self", "number"] (defScope s_Sender_who) := ⟨rfl, rfl, rfl, by decide +kernel, rfl, by decide +kernel, by decide +kernel⟩
abbrev s_Sender_room : Stmt := inClass (top 21) 14
abbrev N_Sender_room : List Str := ["self", "found", "out", "box"]
theorem sc_Sender_room : FnScope N_Sender_room ["self"] (defScope s_Sender_room) := ⟨rfl, rfl, rfl, by decide +kernel, rfl, by decide +kernel, by decide +kernel⟩
abbrev s_Sender_undo : Stmt := inClass (top 21) 15
abbrev N_Sender_undo : List Str := ["self"]
theorem sc_Sender_undo : FnScope N_Sender_undo ["self"] (defScope s_Sender_undo) := ⟨rfl, rfl, rfl, by decide +kernel, rfl, by decide +kernel, by decide +kernel⟩
abbrev s_Sender_twin : Stmt := inClass (top 21) 16
abbrev N_Sender_twin : List Str := ["self", "found"]
theorem sc_Sender_twin : FnScope N_Sender_twin ["self"] (defScope s_Sender_twin) := ⟨rfl, rfl, rfl, by decide +kernel, rfl, by decide +kernel, by decide +kernel⟩
abbrev s_L_box : Stmt := top 23
abbrev N_L_box : List Str := ["_law_script", "_law_k", "_law_cell"]
theorem sc_L_box : FnScope N_L_box ["_law_script", "_law_k"] (defScope s_L_box) := ⟨rfl, rfl, rfl, by decide +kernel, rfl, by decide +kernel, by decide +kernel⟩
abbrev s_L_take : Stmt := top 24
abbrev N_L_take : List Str := ["_law_urn", "_law_low_so", "_law_drawn", "_law_once", "_law_far", "_law_twice"]
theorem sc_L_take : FnScope N_L_take ["_law_urn", "_law_low_so"] (defScope s_L_take) := ⟨rfl, rfl, rfl, by decide +kernel, rfl, by decide +kernel, by decide +kernel⟩
abbrev s_L_cells : Stmt := top 25
abbrev N_L_cells : List Str := ["_law_script", "_law_top", "_law_cells_here", "_law_k", "_law_cell", "_law_at_so"]
theorem sc_L_cells : FnScope N_L_cells ["_law_script", "_law_top"] (defScope s_L_cells) := ⟨rfl, rfl, rfl, by decide +kernel, rfl, by decide +kernel, by decide +kernel⟩
abbrev s_L_of : Stmt := top 26
abbrev N_L_of : List Str := ["_law_urn", "_law_some"]
theorem sc_L_of : FnScope N_L_of ["_law_urn", "_law_some"] (defScope s_L_of) := ⟨rfl, rfl, rfl, by decide +kernel, rfl, by decide +kernel, by decide +kernel⟩
abbrev s_L_lists : Stmt := top 27
abbrev N_L_lists : List Str := ["_law_matter", "_law_bit"]
theorem sc_L_lists : FnScope N_L_lists ["_law_matter"] (defScope s_L_lists) := ⟨rfl, rfl, rfl, by decide +kernel, rfl, by decide +kernel, by decide +kernel⟩
abbrev s_L_same : Stmt := top 28
abbrev N_L_same : List Str := ["_law_got", "_law_goal", "_law_mine_so", "_law_own"]
theorem sc_L_same : FnScope N_L_same ["_law_got", "_law_goal"] (defScope s_L_same) := ⟨rfl, rfl, rfl, by decide +kernel, rfl, by decide +kernel, by decide +kernel⟩
abbrev s_L_words : Stmt := top 29
abbrev N_L_words : List Str := ["_law_urn", "_law_many_so", "_law_pool", "_law_found", "_law_turn"]
theorem sc_L_words : FnScope N_L_words ["_law_urn", "_law_many_so"] (defScope s_L_words) := ⟨rfl, rfl, rfl, by decide +kernel, rfl, by decide +kernel, by decide +kernel⟩
abbrev s_L_shape : Stmt := top 30
abbrev N_L_shape : List Str := ["_law_urn", "_law_row", "_law_cut_so", "_law_front"]
theorem sc_L_shape : FnScope N_L_shape ["_law_urn", "_law_row"] (defScope s_L_shape) := ⟨rfl, rfl, rfl, by decide +kernel, rfl, by decide +kernel, by decide +kernel⟩
abbrev s_L_tale : Stmt := top 31
abbrev N_L_tale : List Str := ["_law_urn", "_law_top"]
theorem sc_L_tale : FnScope N_L_tale ["_law_urn", "_law_top"] (defScope s_L_tale) := ⟨rfl, rfl, rfl, by decide +kernel, rfl, by decide +kernel, by decide +kernel⟩
abbrev s_L_leaves : Stmt := top 32
abbrev N_L_leaves : List Str := ["_law_tale_here"]
theorem sc_L_leaves : FnScope N_L_leaves ["_law_tale_here"] (defScope s_L_leaves) := ⟨rfl, rfl, rfl, by decide +kernel, rfl, by decide +kernel, by decide +kernel⟩
abbrev s_L_rest : Stmt := top 33
abbrev N_L_rest : List Str := ["_law_tale_here", "_law_gone", "_law_own"]
theorem sc_L_rest : FnScope N_L_rest ["_law_tale_here", "_law_gone"] (defScope s_L_rest) := ⟨rfl, rfl, rfl, by decide +kernel, rfl, by decide +kernel, by decide +kernel⟩
abbrev s_L_put : Stmt := top 34
abbrev N_L_put : List Str := ["_law_some", "_law_others"]
theorem sc_L_put : FnScope N_L_put ["_law_some", "_law_others"] (defScope s_L_put) := ⟨rfl, rfl, rfl, by decide +kernel, rfl, by decide +kernel, by decide +kernel⟩
abbrev s_L_done : Stmt := top 35
abbrev N_L_done : List Str := ["_law_host", "_law_word", "_law_name_so", "_law_caught", "_law_found", "error"]
theorem sc_L_done : FnScope N_L_done ["_law_host", "_law_word", "_law_name_so"] (defScope s_L_done) := ⟨rfl, rfl, rfl, by decide +kernel, rfl, by decide +kernel, by decide +kernel⟩
abbrev s_L_due_deed : Stmt := top 36
abbrev N_L_due_deed : List Str := ["_law_tale_here", "_law_cap_so", "_law_rows_so", "_law_word", "_law_name_so", "_law_gone", "_law_later", "_law_many_so", "_law_own"]
theorem sc_L_due_deed : FnScope N_L_due_deed ["_law_tale_here", "_law_cap_so", "_law_rows_so", "_law_word", "_law_name_so"] (defScope s_L_due_deed) := ⟨rfl, rfl, rfl, by decide +kernel, rfl, by decide +kernel, by decide +kernel⟩
abbrev s_L_told_right : Stmt := top 37
abbrev N_L_told_right : List Str := ["_law_tale_here", "_law_cap_so", "_law_host", "_law_rows_so", "_law_told", "_law_goal", "_law_name_so", "_law_k", "_law_free_so", "_law_own"]
theorem sc_L_told_right : FnScope N_L_told_right ["_law_tale_here", "_law_cap_so", "_law_host", "_law_rows_so"] (defScope s_L_told_right) := ⟨rfl, rfl, rfl, by decide +kernel, rfl, by decide +kernel, by decide +kernel⟩
abbrev s_L_no_key : Stmt := top 38
abbrev N_L_no_key : List Str := ["_law_host", "_law_number_so", "_law_caught", "error"]
theorem sc_L_no_key : FnScope N_L_no_key ["_law_host", "_law_number_so"] (defScope s_L_no_key) := ⟨rfl, rfl, rfl, by decide +kernel, rfl, by decide +kernel, by decide +kernel⟩
abbrev s_L_no_box : Stmt := top 39
abbrev N_L_no_box : List Str := ["_law_host", "_law_caught", "error"]
theorem sc_L_no_box : FnScope N_L_no_box ["_law_host"] (defScope s_L_no_box) := ⟨rfl, rfl, rfl, by decide +kernel, rfl, by decide +kernel, by decide +kernel⟩
abbrev s_L_known_right : Stmt := top 40
abbrev N_L_known_right : List Str := ["_law_tale_here", "_law_one_so", "_law_other_so", "_law_told", "_law_later", "_law_own"]
theorem sc_L_known_right : FnScope N_L_known_right [] (defScope s_L_known_right) := ⟨rfl, rfl, rfl, by decide +kernel, rfl, by decide +kernel, by decide +kernel⟩
abbrev s_L_wide_right : Stmt := top 41
abbrev N_L_wide_right : List Str := ["_law_left", "_law_row", "_law_host", "_law_told", "_law_k", "_law_own"]
theorem sc_L_wide_right : FnScope N_L_wide_right [] (defScope s_L_wide_right) := ⟨rfl, rfl, rfl, by decide +kernel, rfl, by decide +kernel, by decide +kernel⟩
abbrev s_L_right : Stmt := top 42
abbrev N_L_right : List Str := ["_law_urn", "_law_tale_here", "_law_cap_so", "_law_soft", "_law_host", "_law_rows_so", "_law_row", "_law_turn", "_law_word", "_law_name_so", "_law_plain_so", "_law_told", "_law_due_so"]
theorem sc_L_right : FnScope N_L_right ["_law_urn"] (defScope s_L_right) := ⟨rfl, rfl, rfl, by decide +kernel, rfl, by decide +kernel, by decide +kernel⟩
abbrev s_law : Stmt := top 43
abbrev N_law : List Str := ["_law_script", "_law_cells_here", "_law_k"]
theorem sc_law : FnScope N_law ["_law_script"] (defScope s_law) := ⟨rfl, rfl, rfl, by decide +kernel, rfl, by decide +kernel, by decide +kernel⟩
def d_tupled : He.DefD := ⟨("tupled", none), "tupled", "tupled", defArgs s_tupled, defBody s_tupled, defScope s_tupled, [], []⟩
def d_Tree_init : He.DefD := ⟨("Tree", some "__init__"), "__init__", "Tree.__init__", defArgs s_Tree_init, defBody s_Tree_init, defScope s_Tree_init, [], []⟩
def d_Tree_grown : He.DefD := ⟨("Tree", some "grown"), "grown", "Tree.grown", defArgs s_Tree_grown, defBody s_Tree_grown, defScope s_Tree_grown, [], []⟩
def d_Tree_head : He.DefD := ⟨("Tree", some "head"), "head", "Tree.head", defArgs s_Tree_head, defBody s_Tree_head, defScope s_Tree_head, [], []⟩
def d_Tree_boxes : He.DefD := ⟨("Tree", some "boxes"), "boxes", "Tree.boxes", defArgs s_Tree_boxes, defBody s_Tree_boxes, defScope s_Tree_boxes, [], []⟩
def d_Tree_nodes : He.DefD := ⟨("Tree", some "nodes"), "nodes", "Tree.nodes", defArgs s_Tree_nodes, defBody s_Tree_nodes, defScope s_Tree_nodes, [], []⟩
def d_Tree_sides : He.DefD := ⟨("Tree", some "sides"), "sides", "Tree.sides", defArgs s_Tree_sides, defBody s_Tree_sides, defScope s_Tree_sides, [], []⟩
def d_Tree_names : He.DefD := ⟨("Tree", some "names"), "names", "Tree.names", defArgs s_Tree_names, defBody s_Tree_names, defScope s_Tree_names, [], []⟩
def d_boxes_in : He.DefD := ⟨("boxes_in", none), "boxes_in", "boxes_in", defArgs s_boxes_in, defBody s_boxes_in, defScope s_boxes_in, [], []⟩
def d_whole : He.DefD := ⟨("whole", none), "whole", "whole", defArgs s_whole, defBody s_whole, defScope s_whole, [], []⟩
def d_Locked_init : He.DefD := ⟨("Locked", some "__init__"), "__init__", "Locked.__init__", defArgs s_Locked_init, defBody s_Locked_init, defScope s_Locked_init, [], []⟩
def d_Locked_has_any : He.DefD := ⟨("Locked", some "has_any"), "has_any", "Locked.has_any", defArgs s_Locked_has_any, defBody s_Locked_has_any, defScope s_Locked_has_any, [], []⟩
def d_Locked_torn_sides : He.DefD := ⟨("Locked", some "torn_sides"), "torn_sides", "Locked.torn_sides", defArgs s_Locked_torn_sides, defBody s_Locked_torn_sides, defScope s_Locked_torn_sides, [], []⟩
def d_Locked_row_from : He.DefD := ⟨("Locked", some "row_from"), "row_from", "Locked.row_from", defArgs s_Locked_row_from, defBody s_Locked_row_from, defScope s_Locked_row_from, [], []⟩
def d_Locked_rows : He.DefD := ⟨("Locked", some "rows"), "rows", "Locked.rows", defArgs s_Locked_rows, defBody s_Locked_rows, defScope s_Locked_rows, [], []⟩
def d_Locked_parts : He.DefD := ⟨("Locked", some "parts"), "parts", "Locked.parts", defArgs s_Locked_parts, defBody s_Locked_parts, defScope s_Locked_parts, [], []⟩
def d_least_header : He.DefD := ⟨("least_header", none), "least_header", "least_header", defArgs s_least_header, defBody s_least_header, defScope s_least_header, [], []⟩
def d_Sender_init : He.DefD := ⟨("Sender", some "__init__"), "__init__", "Sender.__init__", defArgs s_Sender_init, defBody s_Sender_init, defScope s_Sender_init, [.int 16], []⟩
def d_Sender_eq : He.DefD := ⟨("Sender", some "__eq__"), "__eq__", "Sender.__eq__", defArgs s_Sender_eq, defBody s_Sender_eq, defScope s_Sender_eq, [], []⟩
def d_Sender_state : He.DefD := ⟨("Sender", some "state"), "state", "Sender.state", defArgs s_Sender_state, defBody s_Sender_state, defScope s_Sender_state, [], []⟩
def d_Sender_check_box : He.DefD := ⟨("Sender", some "check_box"), "check_box", "Sender.check_box", defArgs s_Sender_check_box, defBody s_Sender_check_box, defScope s_Sender_check_box, [], []⟩
def d_Sender_out : He.DefD := ⟨("Sender", some "out"), "out", "Sender.out", defArgs s_Sender_out, defBody s_Sender_out, defScope s_Sender_out, [], []⟩
def d_Sender_header : He.DefD := ⟨("Sender", some "header"), "header", "Sender.header", defArgs s_Sender_header, defBody s_Sender_header, defScope s_Sender_header, [], []⟩
def d_Sender_parts_for : He.DefD := ⟨("Sender", some "parts_for"), "parts_for", "Sender.parts_for", defArgs s_Sender_parts_for, defBody s_Sender_parts_for, defScope s_Sender_parts_for, [], []⟩
def d_Sender_turn : He.DefD := ⟨("Sender", some "turn"), "turn", "Sender.turn", defArgs s_Sender_turn, defBody s_Sender_turn, defScope s_Sender_turn, [], []⟩
def d_Sender_lock : He.DefD := ⟨("Sender", some "lock"), "lock", "Sender.lock", defArgs s_Sender_lock, defBody s_Sender_lock, defScope s_Sender_lock, [], []⟩
def d_Sender_let : He.DefD := ⟨("Sender", some "let"), "let", "Sender.let", defArgs s_Sender_let, defBody s_Sender_let, defScope s_Sender_let, [], []⟩
def d_Sender_sent : He.DefD := ⟨("Sender", some "sent"), "sent", "Sender.sent", defArgs s_Sender_sent, defBody s_Sender_sent, defScope s_Sender_sent, [], []⟩
def d_Sender_keys : He.DefD := ⟨("Sender", some "keys"), "keys", "Sender.keys", defArgs s_Sender_keys, defBody s_Sender_keys, defScope s_Sender_keys, [], []⟩
def d_Sender_who : He.DefD := ⟨("Sender", some "who"), "who", "Sender.who", defArgs s_Sender_who, defBody s_Sender_who, defScope s_Sender_who, [], []⟩
def d_Sender_room : He.DefD := ⟨("Sender", some "room"), "room", "Sender.room", defArgs s_Sender_room, defBody s_Sender_room, defScope s_Sender_room, [], []⟩
def d_Sender_undo : He.DefD := ⟨("Sender", some "undo"), "undo", "Sender.undo", defArgs s_Sender_undo, defBody s_Sender_undo, defScope s_Sender_undo, [], []⟩
def d_Sender_twin : He.DefD := ⟨("Sender", some "twin"), "twin", "Sender.twin", defArgs s_Sender_twin, defBody s_Sender_twin, defScope s_Sender_twin, [], []⟩
def d_L_box : He.DefD := ⟨("_law_box", none), "_law_box", "_law_box", defArgs s_L_box, defBody s_L_box, defScope s_L_box, [], []⟩
def d_L_take : He.DefD := ⟨("_law_take", none), "_law_take", "_law_take", defArgs s_L_take, defBody s_L_take, defScope s_L_take, [], []⟩
def d_L_cells : He.DefD := ⟨("_law_cells", none), "_law_cells", "_law_cells", defArgs s_L_cells, defBody s_L_cells, defScope s_L_cells, [], []⟩
def d_L_of : He.DefD := ⟨("_law_of", none), "_law_of", "_law_of", defArgs s_L_of, defBody s_L_of, defScope s_L_of, [], []⟩
def d_L_lists : He.DefD := ⟨("_law_lists", none), "_law_lists", "_law_lists", defArgs s_L_lists, defBody s_L_lists, defScope s_L_lists, [], []⟩
def d_L_same : He.DefD := ⟨("_law_same", none), "_law_same", "_law_same", defArgs s_L_same, defBody s_L_same, defScope s_L_same, [], []⟩
def d_L_words : He.DefD := ⟨("_law_words", none), "_law_words", "_law_words", defArgs s_L_words, defBody s_L_words, defScope s_L_words, [], []⟩
def d_L_shape : He.DefD := ⟨("_law_shape", none), "_law_shape", "_law_shape", defArgs s_L_shape, defBody s_L_shape, defScope s_L_shape, [], []⟩
def d_L_tale : He.DefD := ⟨("_law_tale", none), "_law_tale", "_law_tale", defArgs s_L_tale, defBody s_L_tale, defScope s_L_tale, [], []⟩
def d_L_leaves : He.DefD := ⟨("_law_leaves", none), "_law_leaves", "_law_leaves", defArgs s_L_leaves, defBody s_L_leaves, defScope s_L_leaves, [], []⟩
def d_L_rest : He.DefD := ⟨("_law_rest", none), "_law_rest", "_law_rest", defArgs s_L_rest, defBody s_L_rest, defScope s_L_rest, [], []⟩
def d_L_put : He.DefD := ⟨("_law_put", none), "_law_put", "_law_put", defArgs s_L_put, defBody s_L_put, defScope s_L_put, [], []⟩
def d_L_done : He.DefD := ⟨("_law_done", none), "_law_done", "_law_done", defArgs s_L_done, defBody s_L_done, defScope s_L_done, [], []⟩
def d_L_due_deed : He.DefD := ⟨("_law_due_deed", none), "_law_due_deed", "_law_due_deed", defArgs s_L_due_deed, defBody s_L_due_deed, defScope s_L_due_deed, [], []⟩
def d_L_told_right : He.DefD := ⟨("_law_told_right", none), "_law_told_right", "_law_told_right", defArgs s_L_told_right, defBody s_L_told_right, defScope s_L_told_right, [], []⟩
def d_L_no_key : He.DefD := ⟨("_law_no_key", none), "_law_no_key", "_law_no_key", defArgs s_L_no_key, defBody s_L_no_key, defScope s_L_no_key, [], []⟩
def d_L_no_box : He.DefD := ⟨("_law_no_box", none), "_law_no_box", "_law_no_box", defArgs s_L_no_box, defBody s_L_no_box, defScope s_L_no_box, [], []⟩
def d_L_known_right : He.DefD := ⟨("_law_known_right", none), "_law_known_right", "_law_known_right", defArgs s_L_known_right, defBody s_L_known_right, defScope s_L_known_right, [], []⟩
def d_L_wide_right : He.DefD := ⟨("_law_wide_right", none), "_law_wide_right", "_law_wide_right", defArgs s_L_wide_right, defBody s_L_wide_right, defScope s_L_wide_right, [], []⟩
def d_L_right : He.DefD := ⟨("_law_right", none), "_law_right", "_law_right", defArgs s_L_right, defBody s_L_right, defScope s_L_right, [], []⟩
def d_law : He.DefD := ⟨("law", none), "law", "law", defArgs s_law, defBody s_law, defScope s_law, [], []⟩
def fns : List He.DefD := [d_tupled, d_Tree_init, d_Tree_grown, d_Tree_head, d_Tree_boxes, d_Tree_nodes, d_Tree_sides, d_Tree_names, d_boxes_in, d_whole, d_Locked_init, d_Locked_has_any, d_Locked_torn_sides, d_Locked_row_from, d_Locked_rows, d_Locked_parts, d_least_header, d_Sender_init, d_Sender_eq, d_Sender_state, d_Sender_check_box, d_Sender_out, d_Sender_header, d_Sender_parts_for, d_Sender_turn, d_Sender_lock, d_Sender_let, d_Sender_sent, d_Sender_keys, d_Sender_who, d_Sender_room, d_Sender_undo, d_Sender_twin, d_L_box, d_L_take, d_L_cells, d_L_of, d_L_lists, d_L_same, d_L_words, d_L_shape, d_L_tale, d_L_leaves, d_L_rest, d_L_put, d_L_done, d_L_due_deed, d_L_told_right, d_L_no_key, d_L_no_box, d_L_known_right, d_L_wide_right, d_L_right, d_law]
end K90
end

section
set_option Elab.async false
set_option linter.all false
set_option maxRecDepth 100000
set_option maxHeartbeats 4000000
/-! what the top has left, as Bools over the written part -/
namespace K90
open PySem PySem.Spec PyProof.Rows L2
/-! ### the facts that are asked -/
def globs1 : List Str := ["NothingDone", "NoBox", "NoKey", "IsOut", "NotOut", "Full", "tupled", "Tree", "boxes_in", "UNCUT", "whole", "Locked", "least_header", "Sender"]
def globs2 : List Str := ["_law_box", "_law_take", "_law_cells", "_law_of", "_law_lists", "_law_same", "_law_words", "_law_shape", "_law_tale", "_law_leaves", "_law_rest", "_law_put", "_law_done", "_law_due_deed",
  "_law_told_right", "_law_no_key", "_law_no_box", "_law_known_right", "_law_wide_right", "_law_right", "law"]
def globs : List Str := globs1 ++ globs2
def frees : List Str := ["super", "isinstance", "list", "tuple", "str", "int", "bool", "len", "enumerate", "zip", "any", "all", "sorted", "set", "sum", "range", "abs", "LookupError", "ValueError", "RuntimeError"]
def mkrs : List Str := ["Tree", "Locked", "Sender"]
def meths1 : List (Str × Str) := [("Tree", "grown"), ("Tree", "head"), ("Tree", "boxes"), ("Tree", "sides"), ("Locked", "has_any"), ("Locked", "torn_sides"), ("Locked", "row_from"), ("Locked", "rows"), ("Locked", "parts")]
def meths2 : List (Str × Str) := [("Sender", "__eq__"), ("Sender", "state"), ("Sender", "check_box"), ("Sender", "out"), ("Sender", "header"), ("Sender", "parts_for"), ("Sender", "turn"), ("Sender", "lock"),
  ("Sender", "let"), ("Sender", "sent"), ("Sender", "keys"), ("Sender", "who"), ("Sender", "room"), ("Sender", "undo"), ("Sender", "twin")]
def meths : List (Str × Str) := meths1 ++ meths2
def fas : List He.Fa := globs.map He.Fa.glo ++ (frees.map He.Fa.free ++ (mkrs.map He.Fa.mkr ++ meths.map fun p => He.Fa.meth p.1 p.2))
open PySem.W
/-- a class with slots -/
def sclsB (x : Str) (K : Frag) : Bool := plainGet K (He.ga K x) Str.empty && (isClsIn K (He.ga K x) && (plainOver K (He.ga K x) && (He.eqO (findIn K (.ref (He.ga K x)) "__setattr__") (some (some (.builtin "object.__setattr__"))) &&
  (He.eqO (findIn K (.ref (He.ga K x)) "__class__") (some (some (.builtin "object.__class__"))) && (decide (mroIn K (He.ga K x) (.type "object") = some true))))))
def slotB (x f : Str) (i : Nat) (K : Frag) : Bool := He.eqO (findIn K (.ref (He.ga K x)) f) (some (some (.ref (He.ma K (He.ga K x) f)))) && (He.eqO (specialIn K (.ref (He.ma K (He.ga K x) f)) "__get__") (some (some (.builtin "member_descriptor.__get__"))) &&
  (decide (takesIn K (.ref (He.ma K (He.ga K x) f)) = some true) && (decide (typeIn K (.ref (He.ma K (He.ga K x) f)) = some (.type "member_descriptor")) && (decide (slotIn K (He.ma K (He.ga K x) f) (He.ga K x) = some i) && decide (i < 1000)))))
def neB (x : Str) (K : Frag) : Bool := He.eqO (findIn K (.ref (He.ga K x)) "__ne__") (some (some (.builtin "object.__ne__"))) && (notFirst K (He.ga K x) (.ref (He.ga K x)) && (notFirst K (He.ga K x) (.type "tuple") && (notFirst K (He.ga K x) (.type "str") && (notFirst K (He.ga K x) (.type "int") && (notFirst K (He.ga K x) (.type "list") && notFirst K (He.ga K x) (.type "NoneType"))))))
def ktyB (t : String) (x : Str) (b : Bool) (K : Frag) : Bool := decide (kitOne K (.type t) (.ref (He.ga K x)) = some b)
def kitB2 (x y : Str) (b : Bool) (K : Frag) : Bool := decide (kitOne K (.ref (He.ga K x)) (.ref (He.ga K y)) = some b)
def kitT (x : Str) (t : String) (b : Bool) (K : Frag) : Bool := decide (kitOne K (.ref (He.ga K x)) (.type t) = some b)
def exmB (x y : Str) (b : Bool) (K : Frag) : Bool := decide (exmOne K (.ref (He.ga K x)) (.ref (He.ga K y)) = some b)
/-- an own exception class: what raise, except, isinstance ask -/
def excB (x : Str) (K : Frag) : Bool := He.eqO (findIn K (.ref (He.ga K x)) "__getattribute__") (some (some (.builtin "BaseException.__getattribute__"))) && (He.eqO (findIn K (.ref (He.ga K x)) "__getattr__") (some none) &&
  (decide (subIn K (.ref (He.ga K x)) (.type "BaseException") = some true) && (hasDictIn K (He.ga K x) && (He.eqO (findIn K (.ref (He.ga K x)) "__class__") (some (some (.builtin "object.__class__"))) &&
  (decide (mroIn K (He.ga K x) (.type "object") = some true) && (keepIn K (.ref (He.ga K x)) && decide (typeIn K (.ref (He.ga K x)) = some (.type "type"))))))))
def mroB (B : String) : List Value := [.type B, .type "Exception", .type "BaseException", .type "object"]
/-- the one cell of a method's closure -/
def cellOf (K : Frag) (f : Addr) : Addr := match K.lookup f with
  | some ⟨_, _, .func fd, _⟩ => (match fd.closure with
    | [(_, c)] => c
    | _ => 0)
  | _ => 0
def codeOf (K : Frag) (f : Addr) : Addr := match K.lookup f with
  | some ⟨_, _, .func fd, _⟩ => (match fd.code with
    | .ref c => c
    | _ => 0)
  | _ => 0
def fileB (K : Frag) (c : Addr) : Bool := match K.lookup c with
  | some ⟨_, _, .fields vs, _⟩ => (match vs.getD 2 .none with
    | .str f _ => (prg.main.file : Str) == f
    | _ => false)
  | _ => false
def cellB (K : Frag) (c D : Addr) : Bool := match K.lookup c with
  | some ⟨_, _, .cell (some (.ref E)), _⟩ => D == E
  | _ => false
def codeOk (K : Frag) (f : Addr) (q : Str) : Bool := match K.lookup f with
  | some ⟨_, _, .func fd, _⟩ => codeIn K fd.code q
  | _ => false
/-- its __init__ says super().__init__(fld); self.fld = fld -/
def supB (x fld : Str) (B : String) (K : Frag) : Bool := excInitIn K (He.ga K x) (mroB B) (B ++ ".__new__") && (excOver K (He.ga K x) (mroB B) && (He.eqO (findIn K (.ref (He.ga K x)) "__setattr__") (some (some (.builtin "object.__setattr__"))) &&
  (He.eqO (findIn K (.ref (He.ga K x)) fld) (some none) && (He.eqO (findIn K (.ref (He.ga K x)) "__init__") (some (some (.ref (He.ma K (He.ga K x) "__init__")))) && (isFn K (.ref (He.ma K (He.ga K x) "__init__")) &&
  (decide (ks_superIn K (He.ga K x) (He.ga K x) "__init__" = some (some (.builtin (B ++ ".__init__")))) && (He.eqO (nsIn K cStatics "thirdparty.any") (some none) && (decide (subIn K (.ref (He.ga K x)) (.type B) = some true) &&
  (decide (mroIn K (He.ga K x) (.ref (He.ga K x)) = some true) && (isClsIn K (He.ga K x) && (cellB K (cellOf K (He.ma K (He.ga K x) "__init__")) (He.ga K x) && (fileB K (codeOf K (He.ma K (He.ga K x) "__init__")) && codeOk K (He.ma K (He.ga K x) "__init__") (x ++ ".__init__")))))))))))))
def plainExB (x : Str) (B : String) (K : Frag) : Bool := excIn K (He.ga K x) (mroB B) (B ++ ".__new__")
def five : List Str := ["NoBox", "IsOut", "NotOut", "Full", "NothingDone"]
def slts : List (Str × Str × Nat) := [("Tree", "own_boxes", 0), ("Tree", "own_head", 1), ("Tree", "own_sides", 2), ("Locked", "own_numbers", 0), ("Locked", "own_tree", 1),
  ("Sender", "own_deeds", 0), ("Sender", "own_limit", 1), ("Sender", "own_outs", 2), ("Sender", "own_tree", 3)]
def sups : List (Str × Str × String) := [("NoBox", "box", "LookupError"), ("NoKey", "number", "LookupError"), ("IsOut", "box", "ValueError"), ("NotOut", "box", "ValueError"), ("Full", "number", "ValueError")]
def excs : List (Str × String) := [("NoBox", "LookupError"), ("NoKey", "LookupError"), ("IsOut", "ValueError"), ("NotOut", "ValueError"), ("Full", "ValueError"), ("NothingDone", "RuntimeError")]
def exs : List (Frag → Bool) := mkrs.map sclsB ++ (slts.map (fun p => slotB p.1 p.2.1 p.2.2) ++ (sups.map (fun p => supB p.1 p.2.1 p.2.2) ++ (excs.map (fun p => excB p.1) ++ (excs.map (fun p => kitT p.1 p.2 true) ++ [
  neB "Sender", ktyB "tuple" "Sender" false, ktyB "str" "Sender" false, ktyB "int" "Sender" false, ktyB "list" "Sender" false, ktyB "NoneType" "Sender" false,
  plainExB "NothingDone" "RuntimeError",
  fun K => five.all fun x => five.all fun y => exmB x y (x == y) K && kitB2 x y (x == y) K,
  exmB "NoKey" "NoKey" true, fun K => He.tupB K "UNCUT" []]))))
/-- the five __init__ as they stand -/
abbrev FnC : Type := Option (Str × Str × Arguments × FuncBody × Scope × Addr × List Str × Value × Addr)
def fnC (K : Frag) (p : Str × Option Str) : FnC := match K.lookup (He.fAd K p) with
  | some ⟨_, _, .func fd, _⟩ => some (fd.name, fd.qualname, fd.params, fd.body, fd.scope, fd.globals, fd.closure.map (·.1), fd.defaults, fd.builtins)
  | _ => none
structure InD where
  cls : Str
  st : Stmt
def InD.val (d : InD) : FnC := some ("__init__", d.cls ++ ".__init__", defArgs d.st, .stmts (defBody d.st), defScope d.st, mainGlobals, ["__class__"], .none, builtinsNs)
def ins : List InD := [⟨"NoBox", s_NoBox_init⟩, ⟨"NoKey", s_NoKey_init⟩, ⟨"IsOut", s_IsOut_init⟩, ⟨"NotOut", s_NotOut_init⟩, ⟨"Full", s_Full_init⟩]
/-! ### the Hook -/
def asK (g : Addr → Option Obj) : Nat → List Addr
  | 0 => [mainGlobals, cStatics]
  | n + 1 => He.growD g (asK g n)
abbrev AlK : Type := He.AlD × (Bool × List FnC)
def obsK (K : Frag) : AlK := (He.obsD fas fns K, (exs.all fun f => f K), ins.map fun d => fnC K (d.cls, some "__init__"))
def valK : AlK := (He.valD fns, true, ins.map InD.val)
def SaysK (K : Frag) : Prop := obsK K = valK
def obsKG (n : Nat) (g : Addr → Option Obj) : AlK := obsK (He.frG g (asK g n))
def hookK (n : Nat) : Hook where
  α := AlK
  obs := fun s => obsKG n s.heap.get?
  val := fun _ => valK
  says := fun _ h => ∃ K : Frag, K.In h ∧ SaysK K
  of := fun _ _ e => ⟨_, He.frG_in, e⟩
  keeps := fun _ _ _ ⟨K, hK, c⟩ k => ⟨K, Frag.In.keeps hK k, c⟩
theorem obsKG_eq {n : Nat} {g : Addr → Option Obj} {s : Shared} (h : ∀ a, g a = s.heap.get? a) : obsKG n g = (hookK n).obs s := by
  have e : g = s.heap.get? := funext h
  rw [e] <;> rfl
end K90
end

section
set_option Elab.async false
set_option linter.all false
set_option maxRecDepth 100000
set_option maxHeartbeats 0
namespace K90
open PySem PySem.Spec PyProof.Rows L2
abbrev R : PySem.W.OpenRow := PySem.W.OpenLaw.row PySem.Challenge.rw_lockedout_k90_whole_a_sender_and_its_key
abbrev hk : PySem.W.Hook := hookK 6
def ob (s : PySem.W.SharedT) : AlK := obsKG 6 (HandSHeadRun.getT s)
theorem ob_eq (s : PySem.W.SharedT) : ob s = hk.obs s.abs := obsKG_eq (HandSHeadRun.getT_eq s)
def loose1 : List Str := ["_wall", "__name__", "NothingDone", "NoBox", "NoKey", "IsOut", "NotOut", "Full", "tupled", "Tree", "boxes_in", "UNCUT", "whole", "Locked", "least_header", "MOST", "Sender"]
def loose2 : List Str := ["_law_box", "_law_take", "_law_cells", "_law_of", "_law_lists", "_law_same", "_law_words", "_law_shape", "_law_tale", "_law_leaves", "_law_rest", "_law_put", "_law_done", "_law_due_deed", "_law_told_right",
  "_law_no_key", "_law_no_box", "_law_known_right", "_law_wide_right", "_law_right"]
def loose : List Str := loose1 ++ loose2
theorem run (w : World) : HandSHeadRun.RunEq R (PySem.W.view R.prog [43]) hk ob 12000 loose w := by
  intro os
  kernel_rfl
end K90
end

section
set_option Elab.async false
set_option linter.all false
set_option maxRecDepth 100000
set_option maxHeartbeats 4000000
/-! the context; calls by FnR -/
namespace K90
open PySem PySem.Spec PyProof.Rows L2
/-- what the walk is told of the top -/
structure Txt (K : PySem.W.Frag) (mg : Str → Option Value) : Prop where
  says : SaysK K
  at_ : ∃ h : Heap, K.In h ∧ h.Ns mainGlobals mg
section
variable {K : PySem.W.Frag} {mg : Str → Option Value}
theorem Txt.d (T : Txt K mg) : He.SaysD fas fns K := congrArg (fun z : AlK => z.1) T.says
theorem Txt.fa (T : Txt K mg) {f : He.Fa} (h : f ∈ fas) : f.ok K = true := by
  obtain ⟨i, hi, e⟩ := List.mem_iff_getElem.mp h
  exact T.d.fact i (f := f) (by rw [List.getElem?_eq_getElem hi, e])
theorem Txt.ex (T : Txt K mg) {f : PySem.W.Frag → Bool} (h : f ∈ exs) : f K = true := by
  have e : (exs.all fun f => f K) = true := congrArg (fun z : AlK => z.2.1) T.says
  exact List.all_eq_true.mp e f h
theorem Txt.in_ (T : Txt K mg) (i : Nat) {d : InD} (h : ins[i]? = some d := by rfl) : fnC K (d.cls, some "__init__") = d.val := by
  have e : ins.map (fun d => fnC K (d.cls, some "__init__")) = ins.map InD.val := congrArg (fun z : AlK => z.2.2) T.says
  have e2 : (ins.map fun d => fnC K (d.cls, some "__init__"))[i]? = (ins.map InD.val)[i]? := by rw [e]
  rw [List.getElem?_map, List.getElem?_map, h] at e2
  exact Option.some.inj e2
theorem Txt.glo (T : Txt K mg) {x : Str} (h : x ∈ globs := by decide +kernel) : mg x = some (.ref (He.ga K x)) := by
  obtain ⟨hp, X, G⟩ := T.at_
  exact He.glo_ok X G (T.fa (List.mem_append_left _ (List.mem_map_of_mem h)))
theorem Txt.free (T : Txt K mg) {x : Str} (h : x ∈ frees := by decide +kernel) : mg x = none := by
  obtain ⟨hp, X, G⟩ := T.at_
  exact He.free_ok X G (T.fa (List.mem_append_right _ (List.mem_append_left _ (List.mem_map_of_mem h))))
theorem Txt.mkr (T : Txt K mg) {x : Str} (h : x ∈ mkrs := by decide +kernel) : Mk K (He.ga K x) (He.ma K (He.ga K x) "__init__") :=
  He.mkr_ok (T.fa (List.mem_append_right _ (List.mem_append_right _ (List.mem_append_left _ (List.mem_map_of_mem h)))))
theorem Txt.meth (T : Txt K mg) {x m : Str} (h : (x, m) ∈ meths := by decide +kernel) : Meth K (He.ga K x) m (He.ma K (He.ga K x) m) :=
  He.meth_ok (T.fa (List.mem_append_right _ (List.mem_append_right _ (List.mem_append_right _ (List.mem_map.mpr ⟨(x, m), h, rfl⟩)))))
open PySem.W in
theorem Txt.scB (T : Txt K mg) {x : Str} (h : x ∈ mkrs) : sclsB x K = true := T.ex (List.mem_append_left _ (List.mem_map_of_mem h))
theorem cn_get : PySem.W.specialIn K (.builtin "object.__class__") "__get__" = some (some (.builtin "getset_descriptor.__get__")) := by kernel_rfl
theorem cn_tk : PySem.W.takesIn K (.builtin "object.__class__") = some true := by kernel_rfl
theorem Txt.scls (T : Txt K mg) {x : Str} (h : x ∈ mkrs := by decide +kernel) : SlX.SCls K (He.ga K x) := by
  obtain ⟨c1, c⟩ := He.ba (T.scB h)
  obtain ⟨c2, c⟩ := He.ba c
  obtain ⟨c3, c⟩ := He.ba c
  obtain ⟨c4, c⟩ := He.ba c
  exact ⟨c1, c2, c3, He.eqO_ok c4⟩
theorem Txt.sisi (T : Txt K mg) {x : Str} (h : x ∈ mkrs := by decide +kernel) : SlX.SIsi K (He.ga K x) := by
  obtain ⟨c1, c⟩ := He.ba (T.scB h)
  obtain ⟨c2, c⟩ := He.ba c
  obtain ⟨c3, c⟩ := He.ba c
  obtain ⟨c4, c⟩ := He.ba c
  obtain ⟨c5, c6⟩ := He.ba c
  exact ⟨He.eqO_ok c5, cn_get, cn_tk, of_decide_eq_true c6⟩
theorem Txt.slot (T : Txt K mg) {x f : Str} {i : Nat} (h : (x, f, i) ∈ slts := by decide +kernel) : SlX.Slot1 K (He.ga K x) f (He.ma K (He.ga K x) f) i := by
  have c : slotB x f i K = true := T.ex (List.mem_append_right _ (List.mem_append_left _ (List.mem_map.mpr ⟨(x, f, i), h, rfl⟩)))
  obtain ⟨c1, c⟩ := He.ba c
  obtain ⟨c2, c⟩ := He.ba c
  obtain ⟨c3, c⟩ := He.ba c
  obtain ⟨c4, c⟩ := He.ba c
  obtain ⟨c5, c6⟩ := He.ba c
  exact ⟨He.eqO_ok c1, He.eqO_ok c2, of_decide_eq_true c3, of_decide_eq_true c4, of_decide_eq_true c5, of_decide_eq_true c6⟩
theorem Txt.uncut (T : Txt K mg) (H : Hp) : SqT K H (He.ga K "UNCUT") [] := by
  have c : He.tupB K "UNCUT" [] = true := T.ex (f := fun K => He.tupB K "UNCUT" []) (by simp [exs])
  exact He.tupB_ok (vs := []) c H
/-- the def at its place -/
theorem Txt.fn (T : Txt K mg) (i : Nat) {d : He.DefD} (h : fns[i]? = some d := by rfl) : ∃ fd, FunD K d.name d.qual d.params d.body d.scope (d.dvs K) (d.kws K) (He.fAd K d.at_) fd := T.d.def_ i h
end
abbrev FnX (w : World) (K : PySem.W.Frag) (mg : Str → Option Value) (base : Heap) (CX : CXT) (k : Nat) (p : Str × Option Str) (sp : Sp) : Prop := FnR prg w K mg base CX k (He.fAd K p) sp
section
variable {w : World} {K : PySem.W.Frag} {mg : Str → Option Value} {base : Heap}
/-- a def without defaults: its promise by its body -/
theorem fnr {d : He.DefD} {CX : CXT} {N ps : List Str} {k : Nat} {sp : Sp} (F : ∃ fd, FunD K d.name d.qual d.params d.body d.scope (d.dvs K) (d.kws K) (He.fAd K d.at_) fd) (S : FnScope N ps d.scope)
    (len : ∀ vs H Q E, sp vs H Q E → vs.length = ps.length)
    (hbody : ∀ (cdv : Value) (A : Around) (outer : List Env) (s : Shared) (H : Hp) (vs : List V) (Q : VK) (E : XK), Room k (A.deeper (envOfC d.qual d.scope s.heap.objs.size (He.fAd K d.at_) cdv)) → sp vs H Q E →
      ∃ t, PSs (cxOf CX prg w K mg base N d.qual d.scope (He.fAd K d.at_) cdv A outer s H E) d.body t ∧ t { nx := fun _ H' => Q .non H', rt := Q } (start N vs) H)
    (hb : ∀ (kV doc pm : Value) (an : Option Addr) (cdv ct : Value) (us : List Value), us.length = ps.length → bindArgs (PySem.W.fnOf d.name d.qual d.params d.body d.scope .none kV doc pm an cdv ct) ⟨us, []⟩ = pure (ps.zip us))
    (h1 : d.dfl = [] := by rfl) (h2 : d.kwd = [] := by rfl) : FnX w K mg base CX (k + 1) d.at_ sp := by
  obtain ⟨fd, F⟩ := F
  have e1 : d.dvs K = [] := by unfold He.DefD.dvs; rw [h1]; rfl
  have e2 : d.kws K = [] := by unfold He.DefD.kws; rw [h2]; rfl
  rw [e1, e2] at F
  have G : FnOk prg w K mg base CX (k + 1) (He.fAd K d.at_) fd ps sp := F.ok S len hbody
  have r := G.raw (F.bindsN hb) .nil
  refine r.imp fun vs H Q E q => ?_
  rw [List.append_nil]
  exact q
end
/-! ### calls by FnR -/
def tCR (sp : Sp) (E : XK) (t : TA) : TE := fun σ H Q => t σ H fun vs H1 => sp vs H1 Q E
section
variable {X : Cx} {CX : CXT} {k : Nat} {f C : Addr} {sp : Sp} {E : XK} {x m : Str} {p pos apos : Pos} {e o : Expr} {es : List Expr} {ta : TE} {t : TA}
theorem run_cR {pins : List (Addr × Obj)} {σ : L2.St} {H : Hp} {s : Shared} {Q : VK} {us : List Value} {vs : List V} (F : FnR X.prog X.w X.K X.mg X.base CX k f sp) (hr : Room k X.A) (hx : Passes CX X E)
    (I : Inv X pins σ H s) (r : Vals vs us) (h : sp vs H Q E) : wpAny (model X.prog X.w) X.A (call (.ref f) us) (EP X pins σ Q) X.xe s :=
  wpAny_call (run_fnR F hr hx I r h)
theorem pe_cR (F : FnR X.prog X.w X.K X.mg X.base CX k f sp) (hr : Room k X.A) (hg : Gl X x) (hm : X.mg x = some (.ref f)) (hk : PySem.W.keepIn X.K (.ref f) = true) (hx : Passes CX X E)
    (ha : PA X (e :: es) t) (hdb : (x == ("__debug__" : Str)) = false := by decide) (he : starEach (e :: es) X.env = (false, eval e X.env) :: starEach es X.env := by rfl) (hpl : (backTo pos (starEach es X.env)).any (·.1) = false := by rfl) :
    PE X (.Call (.Name x p) (e :: es) [] pos) (tCR sp E t) := by
  refine ⟨fun pins s σ H Q I h => ?_⟩
  refine wpAny_Call_Name_kw (ld_glob I hg hm ?_ hdb)
  refine PySem.W.callWith_K (h₀ := X.base) I.ok.mod.kin hk (thn (ha.run pos pins s σ H _ I h) fun us s1 ⟨vs, H1, I1, r, q⟩ => ⟨I1.kIn, ?_⟩) he hpl
  exact run_cR F hr hx I1 r q
theorem pe_cR0 (F : FnR X.prog X.w X.K X.mg X.base CX k f sp) (hr : Room k X.A) (hg : Gl X x) (hm : X.mg x = some (.ref f)) (hk : PySem.W.keepIn X.K (.ref f) = true) (hx : Passes CX X E)
    (hdb : (x == ("__debug__" : Str)) = false := by decide) : PE X (.Call (.Name x p) [] [] pos) (tCR sp E tNil) := by
  refine ⟨fun pins s σ H Q I h => ?_⟩
  refine wpAny_Call_Name_kw (ld_glob I hg hm ?_ hdb)
  exact PySem.W.callWith_K0 I.kIn hk (run_cR (us := []) F hr hx I .nil h)
end
/-- the def of a name may be kept -/
theorem Txt.kp {K : PySem.W.Frag} {mg : Str → Option Value} (T : Txt K mg) (i : Nat) {d : He.DefD} (h : fns[i]? = some d := by rfl) : PySem.W.keepIn K (.ref (He.fAd K d.at_)) = true := by
  obtain ⟨fd, F⟩ := T.fn i h
  exact F.kp
end K90
end

section
set_option Elab.async false
set_option linter.all false
/-! THE MIRROR: plain functions, no program in sight -/
namespace K90
open PySem
/-! ### trees -/
inductive T where
  | leaf (x : Str)
  | node (l r : T)
namespace T
def data : T → PyData
  | .leaf x => .str x
  | .node l r => .tuple [l.data, r.data]
def leaves : T → List Str
  | .leaf x => [x]
  | .node l r => l.leaves ++ r.leaves
def size : T → Nat
  | .leaf _ => 1
  | .node l r => l.size + r.size
def dp : T → Nat
  | .leaf _ => 0
  | .node l r => max l.dp r.dp + 1
theorem size_pos : ∀ t : T, 0 < t.size
  | .leaf _ => Nat.one_pos
  | .node l r => Nat.lt_of_lt_of_le l.size_pos (Nat.le_add_right _ _)
theorem len_leaves : ∀ t : T, t.leaves.length = t.size
  | .leaf _ => rfl
  | .node l r => by rw [leaves, List.length_append, l.len_leaves, r.len_leaves, size]
theorem dp_lt : ∀ t : T, t.dp < t.size
  | .leaf _ => Nat.one_pos
  | .node l r => by
    have a := l.dp_lt
    have b := r.dp_lt
    have c := l.size_pos
    have d := r.size_pos
    show max l.dp r.dp + 1 < l.size + r.size
    omega
end T
/-! ### nodes: a start and the tree there -/
abbrev Nd := Nat × T
def nS (p : Nd) : Nat := p.1
def nE (p : Nd) : Nat := p.1 + p.2.size
def ndD (p : Nd) : PyData := .tuple [.int p.1, .int (nE p)]
def sidesT : Nd → List Nd
  | (_, .leaf _) => []
  | (n, .node l r) => [(n, l), (n + l.size, r)]
def sidesD (p : Nd) : PyData := .tuple ((sidesT p).map ndD)
/-- all nodes, the sides ahead of their node -/
def subs : Nat → T → List Nd
  | n, .leaf x => [(n, .leaf x)]
  | n, .node l r => subs n l ++ (subs (n + l.size) r ++ [(n, .node l r)])
theorem subs_self : ∀ (n : Nat) (t : T), (n, t) ∈ subs n t
  | n, .leaf x => List.mem_singleton.mpr rfl
  | n, .node l r => List.mem_append_right _ (List.mem_append_right _ (List.mem_singleton.mpr rfl))
theorem subs_side : ∀ (t : T) (n : Nat) (p q : Nd), p ∈ subs n t → q ∈ sidesT p → q ∈ subs n t
  | .leaf x, n, p, q, hp, hq => by
    rw [subs, List.mem_singleton] at hp
    subst hp
    exact absurd hq (by simp [sidesT])
  | .node l r, n, p, q, hp, hq => by
    rw [subs] at hp ⊢
    rcases List.mem_append.mp hp with h | h
    · exact List.mem_append_left _ (subs_side l n p q h hq)
    · rcases List.mem_append.mp h with h | h
      · exact List.mem_append_right _ (List.mem_append_left _ (subs_side r _ p q h hq))
      · rw [List.mem_singleton] at h
        subst h
        have hq' : q = (n, l) ∨ q = (n + l.size, r) := by simpa [sidesT] using hq
        rcases hq' with e | e
        · rw [e]; exact List.mem_append_left _ (subs_self _ _)
        · rw [e]; exact List.mem_append_right _ (List.mem_append_left _ (subs_self _ _))
theorem subs_range : ∀ (t : T) (n : Nat) (p : Nd), p ∈ subs n t → n ≤ p.1 ∧ nE p ≤ n + t.size
  | .leaf x, n, p, hp => by
    rw [subs, List.mem_singleton] at hp
    subst hp
    exact ⟨Nat.le_refl _, Nat.le_refl _⟩
  | .node l r, n, p, hp => by
    rw [subs] at hp
    show n ≤ p.1 ∧ nE p ≤ n + (l.size + r.size)
    rcases List.mem_append.mp hp with h | h
    · have z := subs_range l n p h
      omega
    · rcases List.mem_append.mp h with h | h
      · have z := subs_range r _ p h
        omega
      · rw [List.mem_singleton] at h
        subst h
        exact ⟨Nat.le_refl _, Nat.le_refl _⟩
def keyN (p : Nd) : Nat × Nat := (p.1, nE p)
theorem nE_gt (p : Nd) : p.1 < nE p := by
  have := p.2.size_pos
  unfold nE
  omega
theorem subs_nodup : ∀ (t : T) (n : Nat), ((subs n t).map keyN).Nodup
  | .leaf x, n => by simp [subs]
  | .node l r, n => by
    rw [subs, List.map_append, List.map_append]
    have hl := l.size_pos
    have hr := r.size_pos
    refine List.nodup_append.mpr ⟨subs_nodup l n, List.nodup_append.mpr ⟨subs_nodup r _, by simp, ?_⟩, ?_⟩
    · intro a ha b hb
      obtain ⟨p, hp, rfl⟩ := List.mem_map.mp ha
      have z := subs_range r _ p hp
      have hb' : b = keyN (n, .node l r) := by simpa using hb
      rw [hb']
      intro e
      have e1 : p.1 = n := (Prod.mk.inj e).1
      omega
    · intro a ha b hb
      obtain ⟨p, hp, rfl⟩ := List.mem_map.mp ha
      have z := subs_range l _ p hp
      have g := nE_gt p
      rcases List.mem_append.mp hb with hb | hb
      · obtain ⟨q, hq, rfl⟩ := List.mem_map.mp hb
        have y := subs_range r _ q hq
        intro e
        have e1 : p.1 = q.1 := (Prod.mk.inj e).1
        omega
      · have hb' : b = keyN (n, .node l r) := by simpa using hb
        rw [hb']
        intro e
        have e1 : nE p = n + (l.size + r.size) := (Prod.mk.inj e).2
        omega
theorem subs_fresh_node (l r : T) (n : Nat) : keyN (n, .node l r) ∉ (subs n l ++ subs (n + l.size) r).map keyN := fun h => by
  have h0 := subs_nodup (.node l r) n
  rw [subs, ← List.append_assoc, List.map_append] at h0
  exact (List.nodup_append.mp h0).2.2 _ h _ (by simp) rfl
/-! ### boxes that are out, by their numbers -/
def isOut (o : List Str) (x : Str) : Bool := decide (x ∈ o)
def nums (t : T) (o : List Str) : List Nat := (List.range t.leaves.length).filter fun j => isOut o (t.leaves.getD j Str.empty)
def hasAny (ns : List Nat) (p : Nd) : Bool := ns.any fun j => decide (p.1 ≤ j) && decide (j < nE p)
def torn (ns : List Nat) (p : Nd) : List Nd := (sidesT p).filter (hasAny ns)
def chain (ns : List Nat) : Nat → T → List Nd
  | _, .leaf _ => []
  | n, .node l r => match hasAny ns (n, l), hasAny ns (n + l.size, r) with
    | true, false => (n, l) :: chain ns n l
    | false, true => (n + l.size, r) :: chain ns (n + l.size) r
    | _, _ => []
def chainOf (ns : List Nat) : List Nd → List Nd
  | [s] => s :: chain ns s.1 s.2
  | _ => []
theorem chain_torn (ns : List Nat) (p : Nd) : chain ns p.1 p.2 = chainOf ns (torn ns p) := by
  obtain ⟨n, t⟩ := p
  cases t with
  | leaf x => rfl
  | node l r =>
    show (match hasAny ns (n, l), hasAny ns (n + l.size, r) with
      | true, false => (n, l) :: chain ns n l
      | false, true => (n + l.size, r) :: chain ns (n + l.size) r
      | _, _ => []) = chainOf ns ([(n, l), (n + l.size, r)].filter (hasAny ns))
    cases h1 : hasAny ns (n, l) <;> cases h2 : hasAny ns (n + l.size, r) <;> simp [List.filter, h1, h2, chainOf]
def row (ns : List Nat) (p : Nd) : List Nd := p :: chain ns p.1 p.2
def rowEnd (ns : List Nat) (p : Nd) : Nd := (row ns p).getLast (List.cons_ne_nil _ _)
theorem side_size {p q : Nd} (h : q ∈ sidesT p) : q.2.size < p.2.size := by
  obtain ⟨n, t⟩ := p
  cases t with
  | leaf x => exact absurd h (by simp [sidesT])
  | node l r =>
    have hq' : q = (n, l) ∨ q = (n + l.size, r) := by simpa [sidesT] using h
    have hl := l.size_pos
    have hr := r.size_pos
    rcases hq' with e | e <;> (rw [e]; show _ < l.size + r.size; simp only; omega)
/-- from a node to the end of its chain -/
theorem chain_mem : ∀ (t : T) (ns : List Nat) (n : Nat) (q : Nd), q ∈ chain ns n t → q ∈ subs n t ∧ q.2.size < t.size
  | .leaf x, ns, n, q, h => absurd h (by simp [chain])
  | .node l r, ns, n, q, h => by
    have hl := l.size_pos
    have hr := r.size_pos
    have key : (q = (n, l) ∨ q ∈ chain ns n l) ∨ (q = (n + l.size, r) ∨ q ∈ chain ns (n + l.size) r) := by
      rw [chain] at h
      cases h1 : hasAny ns (n, l) <;> cases h2 : hasAny ns (n + l.size, r) <;> rw [h1, h2] at h
      · exact absurd h (by simp)
      · exact .inr (List.mem_cons.mp h)
      · exact .inl (List.mem_cons.mp h)
      · exact absurd h (by simp)
    rw [subs]
    show _ ∧ q.2.size < l.size + r.size
    rcases key with (e | e) | (e | e)
    · rw [e]; exact ⟨List.mem_append_left _ (subs_self _ _), by show l.size < _; omega⟩
    · obtain ⟨a, b⟩ := chain_mem l ns n q e
      exact ⟨List.mem_append_left _ a, by omega⟩
    · rw [e]; exact ⟨List.mem_append_right _ (List.mem_append_left _ (subs_self _ _)), by show r.size < _; omega⟩
    · obtain ⟨a, b⟩ := chain_mem r ns _ q e
      exact ⟨List.mem_append_right _ (List.mem_append_left _ a), by omega⟩
theorem row_mem {ns : List Nat} {p q : Nd} (h : q ∈ row ns p) : q ∈ subs p.1 p.2 ∧ q.2.size ≤ p.2.size := by
  rcases List.mem_cons.mp h with e | e
  · rw [e]; exact ⟨subs_self _ _, Nat.le_refl _⟩
  · obtain ⟨a, b⟩ := chain_mem _ _ _ _ e
    exact ⟨a, Nat.le_of_lt b⟩
theorem subs_trans : ∀ (t : T) (n : Nat) (p q : Nd), p ∈ subs n t → q ∈ subs p.1 p.2 → q ∈ subs n t
  | .leaf x, n, p, q, hp, hq => by
    rw [subs, List.mem_singleton] at hp
    subst hp
    exact hq
  | .node l r, n, p, q, hp, hq => by
    rw [subs] at hp
    rcases List.mem_append.mp hp with h | h
    · rw [subs]; exact List.mem_append_left _ (subs_trans l n p q h hq)
    · rcases List.mem_append.mp h with h | h
      · rw [subs]; exact List.mem_append_right _ (List.mem_append_left _ (subs_trans r _ p q h hq))
      · rw [List.mem_singleton] at h
        subst h
        exact hq
/-! ### the rows, by a stack of nodes -/
def meas (w : List Nd) : Nat := (w.map fun p => 2 * p.2.size - 1).sum
def rowsGo (ns : List Nat) : Nat → List Nd → List (List Nd) → List (List Nd)
  | 0, _, found => found
  | f + 1, w, found => match w.getLast? with
    | none => found
    | some p => rowsGo ns f (w.dropLast ++ torn ns (rowEnd ns p)) (found ++ if (row ns p).length > 1 then [row ns p] else [])
theorem sum_app (a b : List Nat) : (a ++ b).sum = a.sum + b.sum := by
  induction a with
  | nil => simp
  | cons x a ih => rw [List.cons_append, List.sum_cons, List.sum_cons, ih, Nat.add_assoc]
theorem meas_app (a b : List Nd) : meas (a ++ b) = meas a + meas b := by
  unfold meas
  rw [List.map_append, sum_app]
theorem torn_meas (ns : List Nat) (p : Nd) : meas (torn ns p) + 1 ≤ 2 * p.2.size - 1 := by
  obtain ⟨n, t⟩ := p
  cases t with
  | leaf x => exact Nat.le_refl 1
  | node l r =>
    have hl := l.size_pos
    have hr := r.size_pos
    show meas ([(n, l), (n + l.size, r)].filter (hasAny ns)) + 1 ≤ 2 * (l.size + r.size) - 1
    cases h1 : hasAny ns (n, l) <;> cases h2 : hasAny ns (n + l.size, r) <;> simp [List.filter, h1, h2, meas] <;> omega
theorem step_meas (ns : List Nat) {w : List Nd} {p : Nd} (h : w.getLast? = some p) : meas (w.dropLast ++ torn ns (rowEnd ns p)) + 1 ≤ meas w := by
  have e : w = w.dropLast ++ [p] := by
    have h1 : w ≠ [] := fun z => by rw [z] at h; cases h
    have h2 : w.getLast h1 = p := by
      rw [List.getLast?_eq_some_getLast h1] at h
      exact Option.some.inj h
    rw [← h2]
    exact (List.dropLast_concat_getLast h1).symm
  have a := torn_meas ns (rowEnd ns p)
  have b : (rowEnd ns p).2.size ≤ p.2.size := (row_mem (List.getLast_mem (List.cons_ne_nil _ _))).2
  have c := p.2.size_pos
  have d : meas w = meas w.dropLast + (2 * p.2.size - 1) := by
    conv => lhs; rw [e]
    rw [meas_app]
    unfold meas
    simp
  rw [d, meas_app]
  omega
def rowsAll (ns : List Nat) (t : T) : List (List Nd) := rowsGo ns (2 * t.size) [(0, t)] []
/-! ### headers -/
def rowD (r : List Nd) : PyData := .tuple (r.map ndD)
def partD (p q : Nd) : PyData := .tuple [ndD p, ndD q]
def flD : List Nd → PyData
  | [] => .none
  | p :: r => partD p ((p :: r).getLast (List.cons_ne_nil _ _))
def rowsS (ns : List Nat) (t : T) : List (List Nd) := (rowsAll ns t).mergeSort (PySem.W.dataLe false rowD)
def wholeD (t : T) : PyData := .tuple [ndD (0, t), .tuple []]
def partsL (ns : List Nat) (t : T) : List PyData := if ns.length = 0 then [wholeD t] else ((rowsS ns t).map flD).mergeSort (PySem.W.dataLe false id)
def LH (t : T) (o : List Str) : List PyData := partsL (nums t o) t
def cnt (t : T) (o : List Str) : Nat := (LH t o).length
theorem cnt_eq (t : T) (o : List Str) : cnt t o = if (nums t o).length = 0 then 1 else (rowsAll (nums t o) t).length := by
  unfold cnt LH partsL
  split
  · rfl
  · rw [List.length_mergeSort, List.length_map]
    unfold rowsS
    rw [List.length_mergeSort]
/-! ### texts, sorted -/
def leS (a b : Str) : Bool := decide (a.cps.toList ≤ b.cps.toList)
def insS (x : Str) : List Str → List Str
  | [] => [x]
  | y :: l => if leS x y then x :: y :: l else y :: insS x l
def sortS : List Str → List Str
  | [] => []
  | x :: l => insS x (sortS l)
theorem leS_total (a b : Str) : leS a b = true ∨ leS b a = true := by
  unfold leS
  rw [decide_eq_true_iff, decide_eq_true_iff]
  exact List.le_total _ _
theorem leS_or (a b : Str) : (leS a b || leS b a) = true := by
  rw [Bool.or_eq_true]
  exact leS_total a b
theorem leS_trans (a b c : Str) (h1 : leS a b = true) (h2 : leS b c = true) : leS a c = true := by
  unfold leS at *
  rw [decide_eq_true_iff] at *
  exact List.le_trans h1 h2
theorem leS_anti (a b : Str) (h1 : leS a b = true) (h2 : leS b a = true) : a = b := by
  unfold leS at *
  rw [decide_eq_true_iff] at *
  exact PySem.W.str_of_cps (List.le_antisymm h1 h2)
theorem insS_perm (x : Str) : ∀ l : List Str, (insS x l).Perm (x :: l)
  | [] => .refl _
  | y :: l => by
    unfold insS
    split
    · exact .refl _
    · exact ((insS_perm x l).cons y).trans (.swap x y l)
theorem sortS_perm : ∀ l : List Str, (sortS l).Perm l
  | [] => .refl _
  | x :: l => (insS_perm x (sortS l)).trans ((sortS_perm l).cons x)
theorem insS_sorted (x : Str) : ∀ l : List Str, l.Pairwise (fun a b => leS a b = true) → (insS x l).Pairwise fun a b => leS a b = true
  | [], _ => List.pairwise_singleton _ _
  | y :: l, h => by
    obtain ⟨h1, h2⟩ := List.pairwise_cons.mp h
    unfold insS
    split
    · rename_i c
      refine List.pairwise_cons.mpr ⟨fun z hz => ?_, h⟩
      rcases List.mem_cons.mp hz with e | e
      · rw [e]; exact c
      · exact leS_trans _ _ _ c (h1 z e)
    · rename_i c
      have c' : leS y x = true := (leS_total x y).resolve_left c
      refine List.pairwise_cons.mpr ⟨fun z hz => ?_, insS_sorted x l h2⟩
      rcases List.mem_cons.mp ((insS_perm x l).mem_iff.mp hz) with e | e
      · rw [e]; exact c'
      · exact h1 z e
theorem sortS_sorted : ∀ l : List Str, (sortS l).Pairwise fun a b => leS a b = true
  | [] => List.Pairwise.nil
  | x :: l => insS_sorted x _ (sortS_sorted l)
theorem sorted_one {l m : List Str} (p : l.Perm m) (h1 : l.Pairwise (fun a b => leS a b = true)) (h2 : m.Pairwise (fun a b => leS a b = true)) : l = m :=
  (PySem.W.Srt.the_of_perm (le := leS) leS_trans leS_or (fun x y a b => leS_anti x y a b) p h1).trans
    (PySem.W.Srt.the_of_perm (le := leS) leS_trans leS_or (fun x y a b => leS_anti x y a b) (.refl m) h2).symm
theorem merge_sortS (l : List Str) : l.mergeSort (PySem.W.dataLe false PyData.str) = sortS l := by
  have e : PySem.W.dataLe false PyData.str = leS := by
    rw [PySem.W.dataLe_str (β := Str) fun x => x]
    rfl
  rw [e]
  exact sorted_one ((List.mergeSort_perm l leS).trans (sortS_perm l).symm) (List.pairwise_mergeSort leS_trans leS_or l) (sortS_sorted l)
theorem sortS_len (l : List Str) : (sortS l).length = l.length := (sortS_perm l).length_eq
theorem sortS_mem (l : List Str) (x : Str) : x ∈ sortS l ↔ x ∈ l := (sortS_perm l).mem_iff
theorem sortS_of {l m : List Str} (p : l.Perm m) : sortS l = sortS m := sorted_one ((sortS_perm l).trans (p.trans (sortS_perm m).symm)) (sortS_sorted l) (sortS_sorted m)
/-! ### data -/
def outD (o : List Str) : PyData := .tuple (o.map .str)
def hdrD (t : T) (o : List Str) : PyData := .tuple (LH t o)
def keysL (outs : List (List Str)) (x : Str) : List Nat := (List.range outs.length).filter fun k => !isOut (outs.getD k []) x
def restL (t : T) (o : List Str) : List Str := (sortS t.leaves).filter fun x => !isOut o x
def roomL (t : T) (cap : Int) (o : List Str) : List Str := (restL t o).filter fun x => decide ((cnt t (sortS (o ++ [x])) : Int) ≤ cap)
def natsD (l : List Nat) : List PyData := l.map fun (k : Nat) => PyData.int (k : Int)
def strsD (l : List Str) : List PyData := l.map PyData.str
def sentN (t : T) (outs : List (List Str)) : Int := (outs.map fun o => (cnt t o : Int)).sum
/-! ### a deed -/
inductive Ref where
  | undo | box | out | in_ | full (n : Nat)
def deedR (t : T) (cap : Int) (outs : List (List Str)) (word : Str) (x : Str) : Ref ⊕ List (List Str) :=
  let o := outs.getLastD []
  if word = "undo" then (if outs.length = 1 then .inl .undo else .inr outs.dropLast)
  else if x ∉ t.leaves then .inl .box
  else if isOut o x ≠ decide (word = "let") then .inl (if word = "lock" then .out else .in_)
  else
    let o' := if word = "lock" then sortS (o ++ [x]) else o.filter fun y => !decide (y = x)
    if (cnt t o' : Int) > cap then .inl (.full (cnt t o')) else .inr (outs ++ [o'])
end K90
end

section
set_option Elab.async false
set_option linter.all false
set_option maxRecDepth 100000
set_option maxHeartbeats 4000000
/-! data in the abstract heap -/
namespace K90
open PySem PySem.Spec PyProof.Rows L2
variable {K : PySem.W.Frag} {H H' : Hp}
theorem same_tup {a : Addr} {xs : List V} (e : Same H H') (h : SqT K H a xs) : SqT K H' a xs := by
  rcases h with (h | ⟨o, h⟩) | h
  · exact .inl (.inl (e _ _ h))
  · exact .inl (.inr ⟨o, e _ _ h⟩)
  · exact .inr h
end K90
namespace L2
open PySem PySem.Spec PyProof.Rows K90
variable {K : PySem.W.Frag} {H H' : Hp}
mutual
theorem Dp.same (e : Same H H') : ∀ {v : V} {d : PyData}, Dp K H v d → Dp K H' v d
  | _, _, .non => .non
  | _, _, .bl b => .bl b
  | _, _, .int i => .int i
  | _, _, .str x => .str x
  | _, _, .lst h r => .lst (e.seq h) (DpAll.same e r)
  | _, _, .tup h r => .tup (same_tup e h) (DpAll.same e r)
theorem DpAll.same (e : Same H H') : ∀ {vs : List V} {ds : List PyData}, DpAll K H vs ds → DpAll K H' vs ds
  | _, _, .nil => .nil
  | _, _, .cons h r => .cons (Dp.same e h) (DpAll.same e r)
end
theorem DpAll.len : ∀ {vs : List V} {ds : List PyData}, DpAll K H vs ds → vs.length = ds.length
  | _, _, .nil => rfl
  | _, _, .cons _ r => congrArg Nat.succ (DpAll.len r)
theorem DpAll.get : ∀ {vs : List V} {ds : List PyData} {i : Nat} {v : V}, DpAll K H vs ds → vs[i]? = some v → ∃ d, ds[i]? = some d ∧ Dp K H v d
  | _, _, _, _, .nil, e => by simp at e
  | _, _, 0, v, .cons h r, e => by
    have e' : _ = v := Option.some.inj e
    subst e'
    exact ⟨_, rfl, h⟩
  | _, _, i + 1, v, .cons h r, e => by
    obtain ⟨d, h1, h2⟩ := DpAll.get (i := i) (v := v) r (by simpa using e)
    exact ⟨d, by simpa using h1, h2⟩
theorem DpAll.getD : ∀ {vs : List V} {ds : List PyData} {i : Nat} {d : PyData}, DpAll K H vs ds → ds[i]? = some d → ∃ v, vs[i]? = some v ∧ Dp K H v d
  | _, _, _, _, .nil, e => by simp at e
  | _, _, 0, d, .cons h r, e => by
    have e' : _ = d := Option.some.inj e
    subst e'
    exact ⟨_, rfl, h⟩
  | _, _, i + 1, d, .cons h r, e => by
    obtain ⟨v, h1, h2⟩ := DpAll.getD (i := i) (d := d) r (by simpa using e)
    exact ⟨v, by simpa using h1, h2⟩
theorem DpAll.app : ∀ {vs ws : List V} {ds es : List PyData}, DpAll K H vs ds → DpAll K H ws es → DpAll K H (vs ++ ws) (ds ++ es)
  | _, _, _, _, .nil, s => s
  | _, _, _, _, .cons h r, s => .cons h (DpAll.app r s)
theorem DpAll.one {v : V} {d : PyData} (h : Dp K H v d) : DpAll K H [v] [d] := .cons h .nil
theorem DpAll.dropLast : ∀ {vs : List V} {ds : List PyData}, DpAll K H vs ds → DpAll K H vs.dropLast ds.dropLast
  | _, _, .nil => .nil
  | _, _, .cons h .nil => .nil
  | _, _, .cons h (.cons h2 r) => .cons h (DpAll.dropLast (.cons h2 r))
theorem DpAll.drop : ∀ {vs : List V} {ds : List PyData} (n : Nat), DpAll K H vs ds → DpAll K H (vs.drop n) (ds.drop n)
  | _, _, 0, r => r
  | _, _, _ + 1, .nil => .nil
  | _, _, n + 1, .cons _ r => DpAll.drop n r
theorem DpAll.take : ∀ {vs : List V} {ds : List PyData} (n : Nat), DpAll K H vs ds → DpAll K H (vs.take n) (ds.take n)
  | _, _, 0, r => .nil
  | _, _, _ + 1, .nil => .nil
  | _, _, n + 1, .cons h r => .cons h (DpAll.take n r)
theorem Dp.tupI {v : V} {ds : List PyData} (h : Dp K H v (.tuple ds)) : ∃ a xs, v = .ref a ∧ SqT K H a xs ∧ DpAll K H xs ds := by
  cases h with
  | tup h r => exact ⟨_, _, rfl, h, r⟩
theorem Dp.lstI {v : V} {ds : List PyData} (h : Dp K H v (.list ds)) : ∃ a xs, v = .ref a ∧ SqL K H a xs ∧ DpAll K H xs ds := by
  cases h with
  | lst h r => exact ⟨_, _, rfl, h, r⟩
theorem Dp.strI {v : V} {x : Str} (h : Dp K H v (.str x)) : v = .str x := by cases h; rfl
theorem Dp.intI {v : V} {x : Int} (h : Dp K H v (.int x)) : v = .int x := by cases h; rfl
theorem Dp.blI {v : V} {x : Bool} (h : Dp K H v (.bool x)) : v = .bl x := by cases h; rfl
theorem Dp.nonI {v : V} (h : Dp K H v .none) : v = .non := by cases h; rfl
theorem DpAll.strs : ∀ {vs : List V} {xs : List Str}, DpAll K H vs (xs.map .str) → vs = xs.map .str
  | [], [], _ => rfl
  | _ :: _, [], h => by cases h
  | [], _ :: _, h => by cases h
  | v :: vs, x :: xs, h => by
    cases h with
    | cons h r => rw [h.strI, DpAll.strs r]; rfl
theorem DpAll.ofStrs : ∀ (xs : List Str), DpAll K H (xs.map .str) (xs.map .str)
  | [] => .nil
  | x :: xs => .cons (.str x) (DpAll.ofStrs xs)
theorem DpAll.ofInts {α : Type} (f : α → Int) : ∀ (xs : List α), DpAll K H (xs.map fun x => V.int (f x)) (xs.map fun x => PyData.int (f x))
  | [] => .nil
  | x :: xs => .cons (.int _) (DpAll.ofInts f xs)
theorem Dp.tupM {p : Addr} {xs : List V} {ds : List PyData} (h : H p = some (.tup xs)) (r : DpAll K H xs ds) : Dp K H (.ref p) (.tuple ds) := .tup (.of h) r
theorem Dp.lstM {p : Addr} {xs : List V} {ds : List PyData} (h : H p = some (.lst xs)) (r : DpAll K H xs ds) : Dp K H (.ref p) (.list ds) := .lst (.of h) r
theorem Dp.strs {p : Addr} {xs : List Str} (h : H p = some (.tup (xs.map .str))) : Dp K H (.ref p) (.tuple (xs.map .str)) := .tupM h (DpAll.ofStrs xs)
end L2
namespace K90
open PySem PySem.Spec PyProof.Rows L2
variable {K : PySem.W.Frag} {H H' : Hp}
/-- a new object laid -/
theorem same_new {p : Addr} {o : HO} (n : H p = none) : Same H (upd H p o) := fun b u e => by rw [upd_ne (ne_of_none e n)]; exact e
theorem same_new2 {H0 : Hp} {p : Addr} {o : HO} (s : Same H0 H) (n : H p = none) : Same H0 (upd H p o) := s.trans (same_new n)
/-! ### what lists do not carry stands when lists change -/
mutual
def noL : PyData → Bool
  | .list _ => false
  | .dict _ => false
  | .tuple ds => noLs ds
  | _ => true
def noLs : List PyData → Bool
  | [] => true
  | d :: ds => noL d && noLs ds
end
/-- all stands but at l -/
def Keep (l : List Addr) (H H' : Hp) : Prop := ∀ b o, H b = some o → b ∉ l → H' b = some o
theorem Keep.of (s : Same H H') (l : List Addr) : Keep l H H' := fun b o e _ => s b o e
theorem Keep.trans {l : List Addr} {H1 H2 H3 : Hp} (a : Keep l H1 H2) (b : Keep l H2 H3) : Keep l H1 H3 := fun c o e n => b c o (a c o e n) n
theorem Keep.mono {l m : List Addr} (a : Keep l H H') (h : ∀ x ∈ l, x ∈ m) : Keep m H H' := fun c o e n => a c o e fun z => n (h c z)
theorem Keep.upd {l : List Addr} {H0 : Hp} {p : Addr} {o : HO} (a : Keep l H0 H) (h : p ∈ l ∨ H0 p = none) : Keep l H0 (upd H p o) := fun b u e n => by
  have hb : b ≠ p := fun z => by
    rcases h with h | h
    · exact n (z ▸ h)
    · rw [z, h] at e
      cases e
  rw [upd_ne hb]
  exact a b u e n
/-- the addresses of l hold lists (or what no tuple is) -/
def NoTup (H : Hp) (l : List Addr) : Prop := ∀ a ∈ l, ∀ u, H a = some u → (∀ xs, u ≠ .tup xs) ∧ ∀ o x, u ≠ .frz o x
theorem keep_tup {l : List Addr} {a : Addr} {xs : List V} (k : Keep l H H') (n : NoTup H l) (h : SqT K H a xs) : SqT K H' a xs := by
  rcases h with (h | ⟨o, h⟩) | h
  · exact .inl (.inl (k _ _ h fun z => (n a z _ h).1 xs rfl))
  · exact .inl (.inr ⟨o, k _ _ h fun z => (n a z _ h).2 _ _ rfl⟩)
  · exact .inr h
end K90
namespace L2
open PySem PySem.Spec PyProof.Rows K90
variable {K : PySem.W.Frag} {H H' : Hp}
mutual
theorem Dp.keep {l : List Addr} (k : Keep l H H') (n : NoTup H l) : ∀ {v : V} {d : PyData}, noL d = true → Dp K H v d → Dp K H' v d
  | _, _, _, .non => .non
  | _, _, _, .bl b => .bl b
  | _, _, _, .int i => .int i
  | _, _, _, .str x => .str x
  | _, _, q, .lst h r => by
    rw [noL] at q
    cases q
  | _, _, q, .tup h r => .tup (keep_tup k n h) (DpAll.keep k n (by rw [noL] at q; exact q) r)
theorem DpAll.keep {l : List Addr} (k : Keep l H H') (n : NoTup H l) : ∀ {vs : List V} {ds : List PyData}, noLs ds = true → DpAll K H vs ds → DpAll K H' vs ds
  | _, _, _, .nil => .nil
  | _, _, q, .cons h r => by
    rw [noLs, Bool.and_eq_true] at q
    exact .cons (Dp.keep k n q.1 h) (DpAll.keep k n q.2 r)
end
end L2
namespace K90
open PySem PySem.Spec PyProof.Rows L2
variable {K : PySem.W.Frag} {H H' : Hp}
theorem noTup_one {p : Addr} {xs : List V} (h : H p = some (.lst xs)) : NoTup H [p] := fun a ha u e => by
  rw [List.mem_singleton.mp ha, h] at e
  cases e
  exact ⟨(fun _ z => nomatch z), (fun _ _ z => nomatch z)⟩
theorem noLs_map {α : Type} {f : α → PyData} (h : ∀ x, noL (f x) = true) : ∀ l : List α, noLs (l.map f) = true
  | [] => rfl
  | x :: l => by
    rw [List.map_cons, noLs, h, noLs_map h l]
    rfl
theorem noL_T : ∀ t : T, noL t.data = true
  | .leaf x => rfl
  | .node l r => by
    show noLs [l.data, r.data] = true
    rw [noLs, noLs, noLs, noL_T l, noL_T r]
    rfl
theorem noL_out (o : List Str) : noL (outD o) = true := noLs_map (f := PyData.str) (fun _ => rfl) o
/-! ### trees are tuples or texts -/
theorem leafI {v : V} {x : Str} (h : Dp K H v (T.leaf x).data) : v = .str x := h.strI
theorem nodeI {v : V} {l r : T} (h : Dp K H v (T.node l r).data) : ∃ a x y, v = .ref a ∧ SqT K H a [x, y] ∧ Dp K H x l.data ∧ Dp K H y r.data := by
  obtain ⟨a, xs, rfl, hs, hr⟩ := Dp.tupI h
  cases hr with
  | cons h1 r1 =>
    cases r1 with
    | cons h2 r2 =>
      cases r2
      exact ⟨a, _, _, rfl, hs, h1, h2⟩
/-! ### nodes -/
theorem ndI {v : V} {p : Nd} (h : Dp K H v (ndD p)) : ∃ a, v = .ref a ∧ SqT K H a [.int p.1, .int (nE p)] := by
  obtain ⟨a, xs, rfl, hs, hr⟩ := Dp.tupI h
  cases hr with
  | cons h1 r1 =>
    cases r1 with
    | cons h2 r2 =>
      cases r2
      have e1 := h1.intI
      have e2 := h2.intI
      subst e1 e2
      exact ⟨a, rfl, hs⟩
theorem ndM {a : Addr} {p : Nd} (h : H a = some (.tup [.int p.1, .int (nE p)])) : Dp K H (.ref a) (ndD p) := .tupM h (.cons (.int _) (.cons (.int _) .nil))
end K90
end

section
set_option Elab.async false
set_option linter.all false
set_option maxRecDepth 100000
set_option maxHeartbeats 4000000
/-! comprehensions: the list that grows; lists or tuples; enumerate over a tuple; types -/
namespace K90
open PySem PySem.Spec PyProof.Rows L2
variable {K : PySem.W.Frag}
/-- a list or a tuple -/
def SqA (K : PySem.W.Frag) (H : Hp) (a : Addr) (xs : List V) : Prop := SqL K H a xs ∨ SqT K H a xs
theorem SqA.same {H H' : Hp} {a : Addr} {xs : List V} (e : Same H H') (h : SqA K H a xs) : SqA K H' a xs := h.imp (fun z => e.seq z) (fun z => same_tup e z)
/-- what H has not -/
def dif (H H' : Hp) : Hp := fun b => match H b with
  | none => H' b
  | some _ => none
theorem dif_same {H H' : Hp} : Same (dif H H') H' := fun b o e => by
  unfold dif at e
  split at e
  · exact e
  · cases e
theorem dif_mono {H0 H H' : Hp} (s : Same H0 H) : Same (dif H H') (dif H0 H') := fun b o e => by
  unfold dif at e ⊢
  cases q : H b with
  | none =>
    rw [q] at e
    rw [s.free q]
    exact e
  | some u =>
    rw [q] at e
    cases e
theorem dif_at {H0 H : Hp} {b : Addr} {o : HO} (h0 : H0 b = none) (h : H b = some o) : dif H0 H b = some o := by
  unfold dif
  rw [h0]
  exact h
theorem dif_up {H0 H H' : Hp} (s : Same H H') : Same (dif H0 H) (dif H0 H') := fun b o e => by
  unfold dif at e ⊢
  split at e
  · rename_i q
    exact s b o e
  · cases e
/-- H with b left out -/
def hide (l : List Addr) (H : Hp) : Hp := fun b => if b ∈ l then none else H b
theorem hide_same {l : List Addr} {H : Hp} : Same (hide l H) H := fun b o e => by
  unfold hide at e
  split at e
  · cases e
  · exact e
theorem hide_keep {l : List Addr} {H H' : Hp} (k : Keep l H H') : Same (hide l H) (hide l H') := fun b o e => by
  unfold hide at e ⊢
  split at e
  · cases e
  · rename_i n
    rw [if_neg n]
    exact k b o e n
theorem hide_at {l : List Addr} {H : Hp} {b : Addr} {o : HO} (h : H b = some o) (n : b ∉ l) : hide l H b = some o := by
  unfold hide
  rw [if_neg n]
  exact h
theorem hide_of {l : List Addr} {H : Hp} {b : Addr} {o : HO} (h : hide l H b = some o) : H b = some o := hide_same b o h
theorem hide_dif {l : List Addr} {H H' : Hp} (h : ∀ a ∈ l, ∃ o, H a = some o) : Same (dif H H') (hide l H') := fun b o e => by
  unfold dif at e
  split at e
  · rename_i q
    refine hide_at e fun m => ?_
    obtain ⟨u, hu⟩ := h b m
    rw [q] at hu
    cases hu
  · cases e
/-! ### the new list at D of a comprehension -/
/-- so far: the items tell ds; all that stood stands -/
def Acc (K : PySem.W.Frag) (H1 : Hp) (D : Addr) (ds : List PyData) (H : Hp) : Prop := Same H1 H ∧ H1 D = none ∧ ∃ acc, H D = some (.lst acc) ∧ DpAll K (hide [D] H) acc ds
theorem Acc.start {H1 : Hp} {D : Addr} (n : H1 D = none) : Acc K H1 D [] (upd H1 D (.lst [])) := ⟨same_new n, n, [], upd_same, .nil⟩
theorem Acc.same {H1 H H' : Hp} {D : Addr} {ds : List PyData} (a : Acc K H1 D ds H) (s : Same H H') : Acc K H1 D ds H' := by
  obtain ⟨s1, n, acc, e, r⟩ := a
  exact ⟨s1.trans s, n, acc, s _ _ e, DpAll.same (hide_keep (.of s _)) r⟩
theorem keep_one {H : Hp} {D : Addr} {o : HO} : Keep [D] H (upd H D o) := fun b u e n => by
  rw [upd_ne (fun z => n (by rw [z]; exact List.mem_singleton.mpr rfl))]
  exact e
theorem Acc.push {H1 H : Hp} {D : Addr} {ds : List PyData} {d : PyData} {y : V} (a : Acc K H1 D ds H) (h : Dp K (hide [D] H) y d) (z : ds.length < sizeLine) :
    ∃ acc, H D = some (.lst acc) ∧ acc.length < sizeLine ∧ Acc K H1 D (ds ++ [d]) (upd H D (.lst (acc ++ [y]))) := by
  obtain ⟨s1, n, acc, e, r⟩ := a
  refine ⟨acc, e, by rw [r.len]; exact z, ?_, n, acc ++ [y], upd_same, ?_⟩
  · exact fun b u q => by rw [upd_ne (ne_of_none q n)]; exact s1 b u q
  · exact DpAll.app (DpAll.same (hide_keep keep_one) r) (.one (Dp.same (hide_keep keep_one) h))
/-- flat or tuples alone: D is not within -/
theorem hide_noL {H : Hp} {D : Addr} {xs : List V} (e : H D = some (.lst xs)) {v : V} {d : PyData} (q : noL d = true) (h : Dp K H v d) : Dp K (hide [D] H) v d :=
  Dp.keep (l := [D]) (fun b o e n => hide_at e n) (noTup_one e) q h
theorem Acc.pushN {H1 H : Hp} {D : Addr} {ds : List PyData} {d : PyData} {y : V} (a : Acc K H1 D ds H) (q : noL d = true) (h : Dp K H y d) (z : ds.length < sizeLine) :
    ∃ acc, H D = some (.lst acc) ∧ acc.length < sizeLine ∧ Acc K H1 D (ds ++ [d]) (upd H D (.lst (acc ++ [y]))) := by
  have e := a.2.2
  obtain ⟨acc, e, r⟩ := e
  exact a.push (hide_noL e q h) z
theorem Acc.list {H1 H : Hp} {D : Addr} {ds : List PyData} (a : Acc K H1 D ds H) : ∃ acc, H D = some (.lst acc) ∧ DpAll K H acc ds := by
  obtain ⟨_, _, acc, e, r⟩ := a
  exact ⟨acc, e, DpAll.same hide_same r⟩
theorem Acc.dp {H1 H : Hp} {D : Addr} {ds : List PyData} (a : Acc K H1 D ds H) : Dp K H (.ref D) (.list ds) := by
  obtain ⟨acc, e, r⟩ := a.list
  exact .lstM e r
/-- ranges that pass, one more -/
theorem fm_succ {α : Type} (f : Nat → Option α) (i : Nat) : (List.range (i + 1)).filterMap f = (List.range i).filterMap f ++ (f i).toList := by
  rw [List.range_succ, List.filterMap_append]
  cases h : f i <;> simp [h]
theorem fm_len {α : Type} (f : Nat → Option α) (i : Nat) : ((List.range i).filterMap f).length ≤ i := Nat.le_trans (List.length_filterMap_le _ _) (by simp)
theorem fm_get {α β : Type} (xs : List α) (g : α → Option β) : (List.range xs.length).filterMap (fun i => (xs[i]?).bind g) = xs.filterMap g := by
  induction xs with
  | nil => rfl
  | cons x xs ih =>
    rw [List.length_cons, List.range_succ_eq_map, List.filterMap_cons, List.filterMap_map]
    have e : ((fun i => ((x :: xs)[i]?).bind g) ∘ Nat.succ) = fun i => (xs[i]?).bind g := by
      funext i
      simp
    rw [e, ih, List.filterMap_cons]
    simp
/-- turn i of a comprehension that tells f by the place -/
def AccF (K : PySem.W.Frag) (H1 : Hp) (D : Addr) (f : Nat → Option PyData) (i : Nat) (H : Hp) : Prop := Acc K H1 D ((List.range i).filterMap f) H
theorem AccF.start {H1 : Hp} {D : Addr} {f : Nat → Option PyData} (n : H1 D = none) : AccF K H1 D f 0 (upd H1 D (.lst [])) := Acc.start n
theorem AccF.same {H1 H H' : Hp} {D : Addr} {f : Nat → Option PyData} {i : Nat} (a : AccF K H1 D f i H) (s : Same H H') : AccF K H1 D f i H' := Acc.same a s
theorem AccF.skip {H1 H : Hp} {D : Addr} {f : Nat → Option PyData} {i : Nat} (a : AccF K H1 D f i H) (h : f i = none) : AccF K H1 D f (i + 1) H := by
  unfold AccF
  rw [fm_succ, h]
  simpa [AccF] using a
theorem AccF.push {H1 H : Hp} {D : Addr} {f : Nat → Option PyData} {i : Nat} {d : PyData} {y : V} (a : AccF K H1 D f i H) (hf : f i = some d) (h : Dp K (hide [D] H) y d) (z : i < sizeLine) :
    ∃ acc, H D = some (.lst acc) ∧ acc.length < sizeLine ∧ AccF K H1 D f (i + 1) (upd H D (.lst (acc ++ [y]))) := by
  unfold AccF
  rw [fm_succ, hf]
  exact Acc.push a h (Nat.lt_of_le_of_lt (fm_len f i) z)
theorem AccF.pushN {H1 H : Hp} {D : Addr} {f : Nat → Option PyData} {i : Nat} {d : PyData} {y : V} (a : AccF K H1 D f i H) (hf : f i = some d) (q : noL d = true) (h : Dp K H y d) (z : i < sizeLine) :
    ∃ acc, H D = some (.lst acc) ∧ acc.length < sizeLine ∧ AccF K H1 D f (i + 1) (upd H D (.lst (acc ++ [y]))) := by
  unfold AccF
  rw [fm_succ, hf]
  exact Acc.pushN a q h (Nat.lt_of_le_of_lt (fm_len f i) z)
theorem yes_t {σ : L2.St} {H : Hp} {A B : Hp → Prop} (h : A H) : tYes σ H fun b H3 => if b = true then A H3 else B H3 := by
  show if true = true then A H else B H
  rw [if_pos rfl]
  exact h
/-- one turn's reading: x is stored, the test is asked, the item is made; P behind it -/
def LcTurn (g : TG) (tt : TT) (te : TE) (vs : List Nat) (σ : L2.St) (D : Addr) (P : Hp → Prop) (x : V) (H : Hp) : Prop :=
  g x (wipe σ vs) H fun σ2 H2 => wipe σ2 vs = wipe σ vs ∧ tt σ2 H2 fun b H3 => if b = true then te σ2 H3 fun y H4 => ∃ acc, H4 D = some (.lst acc) ∧ acc.length < sizeLine ∧ P (upd H4 D (.lst (acc ++ [y]))) else P H3
/-- what a comprehension asks of a walk J from H1 -/
def LcR (g : TG) (tt : TT) (te : TE) (vs : List Nat) (σ : L2.St) (Q : VK) (J : It) (H1 : Hp) : Prop := ∀ D, H1 D = none → ∃ W : Nat → Nat → Hp → Prop, (∃ m, W 0 m (upd H1 D (.lst []))) ∧ ∀ i m H, W i m H →
  (J.stop i H ∧ Q (.ref D) H) ∨ (J.go i H ∧ ∃ Nx : Hp → Prop, (∀ H', Nx H' → ∃ m', m' < m ∧ W (i + 1) m' H') ∧ ∀ x H', J.yld i H x H' → g x (wipe σ vs) H' fun σ2 H2 => wipe σ2 vs = wipe σ vs ∧ tt σ2 H2 fun b H3 =>
    if b = true then te σ2 H3 fun y H4 => ∃ acc, H4 D = some (.lst acc) ∧ acc.length < sizeLine ∧ Nx (upd H4 D (.lst (acc ++ [y]))) else Nx H3)
theorem comp_walk {J : It} {n : Nat} {G : Hp → Prop} {Y : Nat → Hp → V → Hp → Prop} (w : Walk J n G Y) (f : Nat → Option PyData) {g : TG} {tt : TT} {te : TE} {vs : List Nat} {σ : L2.St} {H1 : Hp} {Q : VK} (hG : ∀ H, Same H1 H → G H)
    (hs : ∀ D i x H H', H1 D = none → i < n → AccF K H1 D f i H → Y i H x H' → LcTurn g tt te vs σ D (AccF K H1 D f (i + 1)) x H') (hd : ∀ D H, Acc K H1 D ((List.range n).filterMap f) H → Q (.ref D) H) : LcR g tt te vs σ Q J H1 :=
  fun D nD => lc_it w (AccF K H1 D f) (AccF.start nD) (fun i H _ a => hG H a.1) (fun i x H H' hi a y => hs D i x H H' nD hi a y) (hd D)
def tLcR (wi : TI) (g : TG) (tt : TT) (te : TE) (vs : List Nat) : TE := fun σ H Q => wi σ H (LcR g tt te vs σ Q)
theorem pe_lcR {X : Cx} {elt tg iter : Expr} {ifs : List Expr} {scope : Scope} {own : List (Str × Nat)} {pos : Pos} {wi : TI} {g : TG} {tt : TT} {te : TE} (hc : X.calm = true) (hN : X.N.Nodup) (hi : PI X tg iter wi) (ok : BlkOk X.N X.env.scope scope own)
    (hg : ∀ (s : Shared) (H : Hp) (C : Addr) (cl : List (Str × Addr)) (fp : List Addr), PG (X.blk s H scope (compEnvC scope cl C X.env) fp) tg g) (ht : ∀ (s : Shared) (H : Hp) (C : Addr) (cl : List (Str × Addr)) (fp : List Addr), PTs (X.blk s H scope (compEnvC scope cl C X.env) fp) ifs tt)
    (he : ∀ (s : Shared) (H : Hp) (C : Addr) (cl : List (Str × Addr)) (fp : List Addr), PE (X.blk s H scope (compEnvC scope cl C X.env) fp) elt te) (hs : ∀ x, foldedSetIterable iter X.env x = pure x := by intro _; rfl) :
    PE X (.ListComp elt [⟨tg, iter, ifs, 0⟩] scope pos) (tLcR wi g tt te (own.map (·.2))) := pe_lc hc hN hi ok hg ht he hs
theorem ps_setLcR {X : Cx} {i : Nat} {y : Str} {py : Pos} {elt tg iter : Expr} {ifs : List Expr} {scope : Scope} {own : List (Str × Nat)} {pos spos : Pos} {wi : TI} {g : TG} {tt : TT} {te : TE} (hc : X.calm = true) (hN : X.N.Nodup) (hy : X.N[i]? = some y) (hyl : X.env.scope.names.lookup y = some .local)
    (hsw : swapsWith (.ListComp elt [⟨tg, iter, ifs, 0⟩] scope pos) (some (.Name y py)) spos.line X.env = pure true) (hi : PI X tg iter wi) (ok : BlkOk X.N X.env.scope scope own)
    (hg : ∀ (s : Shared) (H : Hp) (C : Addr) (cl : List (Str × Addr)) (fp : List Addr), PG (X.blk s H scope (compEnvC scope cl C X.env) fp) tg g) (ht : ∀ (s : Shared) (H : Hp) (C : Addr) (cl : List (Str × Addr)) (fp : List Addr), PTs (X.blk s H scope (compEnvC scope cl C X.env) fp) ifs tt)
    (he : ∀ (s : Shared) (H : Hp) (C : Addr) (cl : List (Str × Addr)) (fp : List Addr), PE (X.blk s H scope (compEnvC scope cl C X.env) fp) elt te) (hs : ∀ x, foldedSetIterable iter X.env x = pure x := by intro _; rfl) :
    PS X (.Assign [.Name y py] (.ListComp elt [⟨tg, iter, ifs, 0⟩] scope pos) spos) (tAsg (tLcR wi g tt te (own.map (·.2))) (gName i)) := ps_setLc hc hN hy hyl hsw hi ok hg ht he hs
/-- the i-th of xs, told by e of its datum -/
def fAt (ds : List PyData) (e : PyData → Option PyData) : Nat → Option PyData := fun i => (ds[i]?).bind e
theorem comp_seq {xs : List V} {a : Addr} {H1 : Hp} (h : SqA K H1 a xs) (f : Nat → Option PyData) {g : TG} {tt : TT} {te : TE} {vs : List Nat} {σ : L2.St} {Q : VK}
    (hs : ∀ D i x H, H1 D = none → xs[i]? = some x → i < xs.length → AccF K H1 D f i H → LcTurn g tt te vs σ D (AccF K H1 D f (i + 1)) x H) (hd : ∀ D H, Acc K H1 D ((List.range xs.length).filterMap f) H → Q (.ref D) H) :
    ((∃ xs, SqL K H1 a xs) ∧ LcR g tt te vs σ Q (Itl K a) H1) ∨ ((∃ xs, SqT K H1 a xs) ∧ LcR g tt te vs σ Q (Itt K a) H1) := by
  rcases h with h | h
  · exact .inl ⟨⟨xs, h⟩, comp_walk walk_list f (fun H s => s.seq h) (fun D i x H H' nD hi a y => by
      obtain ⟨e, y⟩ := y
      subst e
      exact hs D i x _ nD y hi a) hd⟩
  · exact .inr ⟨⟨xs, h⟩, comp_walk walk_tup f (fun H s => same_tup s h) (fun D i x H H' nD hi a y => by
      obtain ⟨e, y⟩ := y
      subst e
      exact hs D i x _ nD y hi a) hd⟩
/-! ### for x in a list or a tuple -/
def iSeq (K : PySem.W.Frag) (tl : TE) : TI := fun σ H R => tl σ H fun x H1 => ∃ a, x = .ref a ∧ (((∃ xs, SqL K H1 a xs) ∧ R (Itl K a) H1) ∨ ((∃ xs, SqT K H1 a xs) ∧ R (Itt K a) H1))
theorem pi_seq {X : Cx} {tg l : Expr} {tl : TE} (hl : PE X l tl) : PI X tg l (iSeq X.K tl) := by
  refine ⟨fun pins s σ H R I h => ?_⟩
  refine thn (hl.run pins s σ H _ I h) fun v s1 ⟨x, H1, I1, r1, q1⟩ => ?_
  obtain ⟨a, e, q⟩ := q1
  subst e
  cases r1
  have fin : ∀ b ∈ [s1.heap.objs.size], FpOk X pins H1 b := fun b hb => by
    have e : b = s1.heap.objs.size := by simpa using hb
    subst e
    exact I1.fpOk (Nat.le_refl _) (I1.hok.fresh (Nat.le_refl _))
  rcases q with ⟨⟨xs, hq⟩, q⟩ | ⟨⟨xs, hq⟩, q⟩
  · obtain ⟨its, rv, p, hz⟩ := I1.list hq
    refine wpAny_pyIter_list p.isList ?_
    exact ⟨s1.heap.objs.size, [s1.heap.objs.size], _, _, H1, rfl, I1.kept (t' := s1.toks) fun b o e => Heap.get?_push_of_some _ e, turn_list a _, ⟨_, Heap.get?_push_size _ rfl, rfl, rfl⟩, fun b hb => fin b hb, q⟩
  · obtain ⟨its, rv, p, hz⟩ := I1.tuple hq
    refine wpAny_pyIter_tuple (show s1.heap.IsTuple a its.toArray from p) ?_
    exact ⟨s1.heap.objs.size, [s1.heap.objs.size], _, _, H1, rfl, I1.kept (t' := s1.toks) fun b o e => Heap.get?_push_of_some _ e, turn_tuple a _, ⟨_, Heap.get?_push_size _ rfl, rfl, rfl⟩, fun b hb => fin b hb, q⟩
/-! ### enumerate(tuple) -/
def Itu (K : PySem.W.Frag) (a : Addr) : It :=
  ⟨fun i H => ∃ (xs : List V) (x : V), SqT K H a xs ∧ xs[i]? = some x, fun i H v H' => ∃ T x, v = .ref T ∧ H T = none ∧ H' = upd H T (.tup [.int (i : Nat), x]) ∧ ∀ xs, SqT K H a xs → xs[i]? = some x, fun i H => ∃ xs : List V, SqT K H a xs ∧ xs.length ≤ i⟩
set_option maxHeartbeats 1000000 in
theorem meets_enum1 {v : Value} {o : Obj} {H : Heap → Prop} (B : Begins v o H) :
    Meets (Builtin.«enumerate.__new__» ⟨[.type "enumerate", v], []⟩) (fun _ R s => H s.heap ∧
      R (.ok (.ret (.ref (s.heap.push o).objs.size))) { s with heap := (s.heap.push o).push { cls := .type "enumerate", data := .fields #[.none, .bool false, .ref s.heap.objs.size, rawInt 0, .none, .none] } }) :=
  .of_wp fun prog w A R s h => by
    obtain ⟨hp, g, d, tk, os⟩ := s; obtain ⟨h1, h⟩ := h
    have hsub := sub_enumerate
    have q1 : ∀ {A' : Around} {E : Value → Shared → Prop} {Q : Value → Shared → Prop}, Q (.ref hp.objs.size) ⟨hp.push o, g, d, tk, os⟩ → wpAny (model prog w) A' (pyIter v) Q E ⟨hp, g, d, tk, os⟩ :=
      fun q => B.iter prog w _ _ ⟨hp, g, d, tk, os⟩ _ h1 q
    wp_walk using q1
    refine wpAny_stack_any fun st => wpAny_pure ?_
    split
    · rename_i c _ _ _ _ _
      cases (c == Value.type "enumerate")
      · wp_walk using q1
        exact ⟨_, rfl, h⟩
      · wp_walk using q1
        exact ⟨_, rfl, h⟩
    · wp_walk using q1
      exact ⟨_, rfl, h⟩
theorem enum_begins1 {prog : Program} {w : World} {A : Around} {E : Value → Shared → Prop} {s : Shared} {v : Value} {o : Obj} {H : Heap → Prop} {Q : Value → Shared → Prop} (B : Begins v o H) (h1 : H s.heap)
    (h : ∀ h', IsEnum h' (s.heap.objs.size + 1) s.heap.objs.size 0 .none → h'.get? s.heap.objs.size = some o → h'.objs.size = s.heap.objs.size + 2 →
      (∀ b o, s.heap.get? b = some o → h'.get? b = some o) → Q (.ref (s.heap.objs.size + 1)) { s with heap := h' }) :
    wpAny (model prog w) A (call (.type "enumerate") [v]) Q E s := by
  refine callType_new F.called_enumerate (by decide) (F.typeCall_enumerate_1 _) (F.newCall_enumerate_1 _) (fun obj => F.args_object_init_2 obj _) F.entry_enumerate_new
    (meets_enum1 B) ⟨h1, ?_⟩
  have hz : (s.heap.push o).objs.size = s.heap.objs.size + 1 := Heap.size_push ..
  show _ ∧ _
  rw [hz]
  have he : IsEnum ((s.heap.push o).push { cls := .type "enumerate", data := .fields #[.none, .bool false, .ref s.heap.objs.size, rawInt 0, .none, .none] }) (s.heap.objs.size + 1) s.heap.objs.size 0 .none := by
    have := Heap.get?_push_size (s.heap.push o) (o := { cls := .type "enumerate", data := .fields #[.none, .bool false, .ref s.heap.objs.size, rawInt 0, .none, .none] }) rfl
    rw [hz] at this; exact this
  refine ⟨⟨_, he, rfl⟩, h _ he (Heap.get?_push_of_some _ (Heap.get?_push_size _ B.free)) (by rw [Heap.size_push, hz]) fun b o x => Heap.get?_push_of_some _ (Heap.get?_push_of_some _ x)⟩
theorem ne_iter {h : Heap} {a it : Addr} {vs : Array Value} {i : Nat} (p : h.IsTuple a vs) (q : h.IsTupleIter it a i) : a ≠ it := fun z => by
  obtain ⟨o, e, c, d⟩ := q
  obtain ⟨o', e', c', n, d'⟩ := p
  rw [← z, e'] at e
  cases e
  rw [d] at d'
  cases d'
theorem turn_enumT {P : Program} {w : World} {K : PySem.W.Frag} {elts : List Expr} {kk : Nat} {tpos : Pos} (a e it : Addr) :
    Turn P w K (.Tuple elts kk tpos) (Itu K a) [e, it] e (fun i h => (∃ old, IsEnum h e it ((i : Nat) : Int) old) ∧ h.IsTupleIter it a i ∧ e ≠ it) where
  mem := by simp
  obj := fun i h st b hb => by
    obtain ⟨⟨old, he⟩, ⟨o, ho, hc, hd⟩, _⟩ := st
    have e' : b = e ∨ b = it := by simpa using hb
    rcases e' with z | z
    · rw [z]; exact ⟨_, he, fun v q => nomatch q⟩
    · rw [z]; exact ⟨o, ho, fun v q => by rw [hd] at q; cases q⟩
  keep := fun i h h' st k => let ⟨⟨old, he⟩, hi, hne⟩ := st; ⟨⟨old, k e (by simp) _ he⟩, hi.at fun o q => k it (by simp) o q, hne⟩
  item := by
    intro X hP hw hK hc i pins s σ H E I hf st hg
    subst hP hw hK
    obtain ⟨⟨old, he⟩, hit, hne⟩ := st
    obtain ⟨xs, x, hq, hx⟩ := hg
    obtain ⟨its, rv, p, hz⟩ := I.tuple hq
    have p' : s.heap.IsTuple a its.toArray := p
    obtain ⟨u, hu, ru⟩ := rv.get hx
    have hel : e < s.heap.objs.size := Heap.lt_size he
    have hil : it < s.heap.objs.size := by obtain ⟨_, q, _⟩ := hit; exact Heap.lt_size q
    have D := Draws.tuple (prog := X.prog) (w := X.w) (A := X.A.in1) (I.ok.hd hc) it a (ne_iter p' hit) its.toArray
    have hea : e ≠ a := fun z => by
      obtain ⟨o', e', c', n, d'⟩ := p'
      rw [z] at he
      have he2 : s.heap.get? a = some _ := he
      rw [e'] at he2
      cases he2
      cases d'
    have hlt : i < its.toArray.size := by
      have h1 := (List.getElem?_eq_some_iff.mp hu).1
      simpa using h1
    refine wpAny_pyNext_enum_itemD D he ⟨hit, p'⟩ hlt hne (by simp [hne, hea]) fun y h' tk hy ho hst' hT hsz hk => ?_
    obtain ⟨hit', p2⟩ := hst'
    have ey : y = u := by
      have h1 : its.toArray[i]? = some u := by simpa using hu
      exact Option.some.inj (hy.symm.trans h1)
    subst ey
    refine ⟨_, rfl, wpAny_letOwnedTupleGo_enum (s := { s with heap := h', toks := tk + 1 }) ho fun h'' he' sb => ?_⟩
    have hT2 : h''.get? s.heap.objs.size = some { cls := .type "tuple", data := .seq #[.int i tk, y] } := (sb.2 _ (Nat.ne_of_gt hel)).trans hT
    have new : ObjOk X.prog X.w (upd H s.heap.objs.size (.tup [.int (i : Nat), x])) h'' s.heap.objs.size (.tup [.int (i : Nat), x]) :=
      ⟨by show 2 ≤ sizeLine; decide, [.int i tk, y], .cons ⟨_, rfl⟩ (.cons ru .nil), ⟨_, hT2, rfl, _, rfl⟩⟩
    have I1 : Inv X pins σ (upd H s.heap.objs.size (.tup [.int (i : Nat), x])) { s with heap := h'', toks := tk + 1 } :=
      I.turnedNew (ch := [e, it]) (fun b ob hb q => (sb.2 b (fun z => hb (by simp [z]))).trans (hk b ob (fun z => hb (by simp [z])) (fun z => hb (by simp [z])) q)) hf (Nat.le_refl _) new
    refine ⟨.ref s.heap.objs.size, _, I1, rfl, ⟨_, x, rfl, I.hok.fresh (Nat.le_refl _), rfl, fun ys hy => by rw [I.tuple_inj hy hq]; exact hx⟩, ⟨⟨y, ?_⟩, hit'.at fun o q => (sb.2 it (Ne.symm hne)).trans q, hne⟩, fun b hb => ?_⟩
    · have e1 : ((i + 1 : Nat) : Int) = (i : Int) + 1 := by omega
      rw [e1]; exact he'
    · have hb' : b < s.heap.objs.size := by
        have e' : b = e ∨ b = it := by simpa using hb
        rcases e' with z | z
        · rw [z]; exact hel
        · rw [z]; exact hil
      rw [upd_ne (Nat.ne_of_lt hb')]
      exact (hf b hb).1
  done := by
    intro X hP hw hK hc i pins s σ H E I hf st hg
    subst hP hw hK
    obtain ⟨⟨old, he⟩, hit, hne⟩ := st
    obtain ⟨xs, hq, hx⟩ := hg
    obtain ⟨its, rv, p, hz⟩ := I.tuple hq
    have p' : s.heap.IsTuple a its.toArray := p
    obtain ⟨f0, f1, f2, f3, f4, f5⟩ := hf it (by simp)
    have hl := rv.length
    have hT : s.TypeIs (.ref e) "enumerate" := ⟨_, he, rfl⟩
    unfold pyNext
    refine wpAny_bind (wpAny_attempt (wpAny_callSpecial?_slot (name := Str.ofString "__next__") hT F.slot_enumerate_next
      (wpAny_call_entry F.slot_enumerate_next hT F.entry_enumerate_next ?_ (F.args_enumerate_next_1 _))))
    show wpAny _ _ (field (.ref e) 2 >>= _) _ _ _
    refine wpAny_bind (wpAny_field he rfl (x := .ref it) rfl ?_)
    refine wpAny_bind (wpAny_nextOf_tuple_end (I.ok.hd hc) hit p' (by simp; omega) fun h' x he' hx' => ?_)
    obtain ⟨o, ho, hc'⟩ := hx'
    refine wpAny_bind (wpAny_isInstance (T := "StopIteration") (b := true) ⟨o, ho, hc'⟩ isSubtype_stop ?_)
    exact wpAny_pure ⟨rfl, I.turned (t' := s.toks) (fun b o hb q => he' b o hb q) f0 f1 f3 f4 f5⟩
  self := fun A i s Q E st h => let ⟨⟨_, he⟩, _⟩ := st; wpAny_pyIter_enum he h
def iEnumT (K : PySem.W.Frag) (ta : TA) : TI := fun σ H R => ta σ H fun vs H1 => ∃ a xs, vs = [.ref a] ∧ SqT K H1 a xs ∧ R (Itu K a) H1
theorem pi_enumT {X : Cx} {e : Expr} {ta : TA} {p pos tpos : Pos} {elts : List Expr} {kk : Nat} (hg : Gl X "enumerate") (hm : X.mg "enumerate" = none) (ha : PA X [e] ta) (hs : starEach [e] X.env = [(false, eval e X.env)] := by rfl) :
    PI X (.Tuple elts kk tpos) (.Call (.Name "enumerate" p) [e] [] pos) (iEnumT X.K ta) := by
  refine ⟨fun pins s σ H R I h => ?_⟩
  refine Call_ (ld_blt I hg hm boot_enumerate (PyProof.Rows.callWith_type1 (thn (ha.run pos pins s σ H _ I h) fun us s1 ⟨vs, H1, I1, r1, q1⟩ => ?_) hs rfl))
  obtain ⟨a, xs, ex, hq, q⟩ := q1
  subst ex
  cases r1 with
  | cons r rr =>
    cases rr
    cases r
    obtain ⟨its, rv, p', hz⟩ := I1.tuple hq
    have p2 : s1.heap.IsTuple a its.toArray := p'
    refine enum_begins1 (begins_tuple a its.toArray) p2 fun h' he ho hsz hk => wpAny_pyIter_enum he ?_
    have hit : h'.IsTupleIter s1.heap.objs.size a 0 := ⟨_, ho, rfl, rfl⟩
    have I2 : Inv X pins σ H1 { s1 with heap := h' } := I1.kept (t' := s1.toks) hk
    refine ⟨s1.heap.objs.size + 1, [s1.heap.objs.size + 1, s1.heap.objs.size], _, _, H1, rfl, I2, turn_enumT a (s1.heap.objs.size + 1) s1.heap.objs.size, ⟨⟨.none, he⟩, hit, Nat.succ_ne_self _⟩, fun b hb => ?_, q⟩
    have e' : b = s1.heap.objs.size + 1 ∨ b = s1.heap.objs.size := by simpa using hb
    have hle : s1.heap.objs.size ≤ b := by
      rcases e' with z | z
      · rw [z]; exact Nat.le_add_right _ _
      · rw [z]; exact Nat.le_refl _
    exact I1.fpOk hle (I1.hok.fresh hle)
theorem walk_enumT {a : Addr} {xs : List V} : Walk (Itu K a) xs.length (fun H => SqT K H a xs) (YPair (fun i => some (.int (i : Nat))) (fun i => xs[i]?)) := by
  refine ⟨fun i _ hi q => ⟨xs, xs[i], q, by simp [hi]⟩, fun _ q => ⟨xs, q, Nat.le_refl _⟩, fun i H v H' _ q y => ?_⟩
  obtain ⟨T, x, h1, h2, h3, h4⟩ := y
  exact ⟨T, .int (i : Nat), x, h1, h2, h3, rfl, h4 xs q⟩
/-! ### types of data -/
def tyD : PyData → Option String
  | .none => some "NoneType"
  | .bool _ => some "bool"
  | .int _ => some "int"
  | .str _ => some "str"
  | .list _ => some "list"
  | .tuple _ => some "tuple"
  | _ => none
theorem ty_lst {H : Hp} {a : Addr} {xs : List V} (h : SqL K H a xs) : TyX K H (.ref a) (.type "list") := by
  rcases h with (h | ⟨o, h⟩) | ⟨o, its, n, e, c, _⟩
  · exact .base (.lst h)
  · exact .base (.frz h)
  · exact .kList e c
theorem ty_tup {H : Hp} {a : Addr} {xs : List V} (h : SqT K H a xs) : TyX K H (.ref a) (.type "tuple") := by
  rcases h with (h | ⟨o, h⟩) | ⟨o, its, n, e, c, _⟩
  · exact .base (.tup h)
  · exact .fTuple h
  · exact .kTuple e c
theorem ty_dp {H : Hp} {v : V} {d : PyData} (h : Dp K H v d) : ∃ n, tyD d = some n ∧ TyX K H v (.type n) := by
  cases h with
  | non => exact ⟨_, rfl, .base .non⟩
  | bl b => exact ⟨_, rfl, .base (.bl b)⟩
  | int i => exact ⟨_, rfl, .base (.int i)⟩
  | str x => exact ⟨_, rfl, .base (.str x)⟩
  | lst h r => exact ⟨_, rfl, ty_lst h⟩
  | tup h r => exact ⟨_, rfl, ty_tup h⟩
end K90
end

section
set_option Elab.async false
set_option linter.all false
set_option maxRecDepth 100000
set_option maxHeartbeats 4000000
/-! tupled -/
namespace K90
open PySem PySem.Spec PyProof.Rows L2
/-- a depth, a width -/
def smD : Nat → PyData → Bool
  | 0, .list _ => false
  | 0, .tuple _ => false
  | _, .dict _ => false
  | n + 1, .list ds => decide (ds.length ≤ 1000) && ds.all (smD n)
  | n + 1, .tuple ds => decide (ds.length ≤ 1000) && ds.all (smD n)
  | _, _ => true
def tupN : Nat → PyData → PyData
  | n + 1, .list ds => .tuple (ds.map (tupN n))
  | n + 1, .tuple ds => .tuple (ds.map (tupN n))
  | _, d => d
/-- a sequence's items -/
def seqD : PyData → Option (List PyData)
  | .list ds => some ds
  | .tuple ds => some ds
  | _ => none
theorem noLs_all : ∀ ds : List PyData, noLs ds = ds.all noL
  | [] => rfl
  | d :: ds => by rw [noLs, noLs_all ds]; rfl
theorem noL_tupN : ∀ (n : Nat) (d : PyData), smD n d = true → noL (tupN n d) = true
  | 0, d, h => by cases d <;> first | rfl | (simp [smD] at h)
  | n + 1, d, h => by
    have fin : ∀ ds : List PyData, (decide (ds.length ≤ 1000) && ds.all (smD n)) = true → noLs (ds.map (tupN n)) = true := fun ds h => by
      rw [Bool.and_eq_true] at h
      rw [noLs_all, List.all_map, List.all_eq_true]
      exact fun x hx => noL_tupN n x (List.all_eq_true.mp h.2 x hx)
    cases d with
    | list ds => exact fin ds h
    | tuple ds => exact fin ds h
    | dict _ => simp [smD] at h
    | _ => rfl
theorem smD_seq {n : Nat} {d : PyData} {ds : List PyData} (h : smD n d = true) (e : seqD d = some ds) : ∃ m, n = m + 1 ∧ ds.length ≤ 1000 ∧ (∀ x ∈ ds, smD m x = true) ∧ tupN n d = .tuple (ds.map (tupN m)) := by
  cases n with
  | zero => cases d <;> simp [smD, seqD] at h e
  | succ m =>
    cases d with
    | list es =>
      cases Option.some.inj e
      have h' : (decide (ds.length ≤ 1000) && ds.all (smD m)) = true := h
      rw [Bool.and_eq_true] at h'
      exact ⟨m, rfl, of_decide_eq_true h'.1, fun x hx => List.all_eq_true.mp h'.2 x hx, rfl⟩
    | tuple es =>
      cases Option.some.inj e
      have h' : (decide (ds.length ≤ 1000) && ds.all (smD m)) = true := h
      rw [Bool.and_eq_true] at h'
      exact ⟨m, rfl, of_decide_eq_true h'.1, fun x hx => List.all_eq_true.mp h'.2 x hx, rfl⟩
    | _ => cases e
theorem tupN_flat {n : Nat} {d : PyData} (e : seqD d = none) : tupN n d = d := by
  cases n <;> cases d <;> first | rfl | cases e
def spTup (K : PySem.W.Frag) (n : Nat) : Sp := fun vs H Q _ => ∃ v d, vs = [v] ∧ Dp K H v d ∧ smD n d = true ∧ ∀ H' v', Same H H' → Dp K H' v' (tupN n d) → Q v' H'
theorem kit_lt (n : String) {K : PySem.W.Frag} (b : Bool) (h1 : kitB n "list" = some (n == "list") := by decide +kernel) : PySem.W.kitOne K (.type n) (.type "list") = some (n == "list") := kit_ty h1
/-- which of the six types are lists or tuples -/
theorem kit_seq {K : PySem.W.Frag} {d : PyData} {n : String} (h : tyD d = some n) : PySem.W.kitAny K (.type n) [.type "list", .type "tuple"] = some (seqD d).isSome := by
  cases d <;> cases h <;> kernel_rfl
theorem boot_isi : bootBuiltins "isinstance" = some (.builtin "isinstance") := by kernel_rfl
theorem boot_str : bootBuiltins "str" = some (.type "str") := by kernel_rfl
section
variable {w : World} {K : PySem.W.Frag} {mg : Str → Option Value} {base : Heap}
theorem clsV2 {K : PySem.W.Frag} : Paired ClsV [V.ty "list", V.ty "tuple"] [Value.type "list", Value.type "tuple"] := .cons (.ty _) (.cons (.ty _) .nil)
theorem bodyN {X : Cx} {body : List Stmt} {D : Ends} {σ : L2.St} {H : Hp} {t : TS} (h : PSs X.nox body t) (r : t D σ H) : ∃ t, PSs X body t ∧ t D σ H := ⟨t, h.nox, r⟩
theorem bodyX {X : Cx} {body : List Stmt} {D : Ends} {σ : L2.St} {H : Hp} {t : TS} (h : PSs X body t) (r : t D σ H) : ∃ t, PSs X body t ∧ t D σ H := ⟨t, h, r⟩
def tFalse : TE := fun _ _ _ => False
theorem ok_tupled (T : Txt K mg) (n : Nat) : FnX w K mg base CX0 (n + 1) ("tupled", none) (spTup K n) := by
  have len : ∀ vs H Q E, spTup K n vs H Q E → vs.length = 1 := fun vs H Q E ⟨v, d, e, _⟩ => by rw [e]; rfl
  have flat : ∀ {H : Hp} {v : V} {d : PyData} {Q : VK}, Dp K H v d → seqD d = none → (∀ H' v', Same H H' → Dp K H' v' (tupN n d) → Q v' H') → ∀ H', Same H H' → Q v H' := fun hd e hQ H' s => by
    rw [tupN_flat e] at hQ
    exact hQ H' _ s (hd.same s)
  cases n with
  | zero =>
    refine fnr (ps := ["thing"]) (T.fn 0) sc_tupled len ?bd (fun _ _ _ _ _ _ us hl => match us, hl with | [_], _ => rfl)
    case bd =>
      intro cdv A outer s H vs Q E hr h
      apply bodyN
      case h =>
        exact pss_one (ps_ret (pe_ifExp
          (pt_val (pe_callB call_isiT (by rfl) T.free boot_isi (pa_cons (pv 0) (pa_cons (pe_tup (pa_cons (pe_bltn (v := .ty "list") (by rfl) T.free boot_list rfl) (pa_cons (pe_bltn (v := .ty "tuple") (by rfl) T.free boot_tuple rfl) pa_nil))) pa_nil))))
          ⟨fun pins s σ H Q I (h : tFalse σ H Q) => h.elim⟩ (pv 0)))
      case r =>
        obtain ⟨v, d, rfl, hd, hs, hQ⟩ := h
        have e : seqD d = none := by cases d <;> first | rfl | (simp [smD] at hs)
        obtain ⟨ty, h1, h2⟩ := ty_dp (hd)
        refine ⟨_, rfl, by show 2 ≤ sizeLine; decide, fun p np => ?_⟩
        obtain ⟨ty, h1, h2⟩ := ty_dp (hd.same (same_new (o := .tup [V.ty "list", V.ty "tuple"]) np))
        refine ⟨_, _, _, _, _, _, rfl, upd_same, clsV2 (K := K), h2, kit_seq h1, _, rfl, ?_⟩
        rw [e]
        exact iteF ⟨_, rfl, flat hd e hQ _ (same_new np)⟩
  | succ m =>
    have ih := ok_tupled T m
    refine fnr (ps := ["thing"]) (T.fn 0) sc_tupled len ?bd (fun _ _ _ _ _ _ us hl => match us, hl with | [_], _ => rfl)
    case bd =>
      intro cdv A outer s H vs Q E hr h
      apply bodyN
      case h =>
        exact pss_one (ps_ret (pe_ifExp
          (pt_val (pe_callB call_isiT (by rfl) T.free boot_isi (pa_cons (pv 0) (pa_cons (pe_tup (pa_cons (pe_bltn (v := .ty "list") (by rfl) T.free boot_list rfl) (pa_cons (pe_bltn (v := .ty "tuple") (by rfl) T.free boot_tuple rfl) pa_nil))) pa_nil))))
          (pe_callTy call_tuple_of (by rfl) T.free boot_tuple (pa_cons (pe_lcR (own := [("part", 1)]) (g := gName 1) (tt := tYes) (by rfl) sc_tupled.nd (pi_seq (pv 0)) (blkOk_by (own := [("part", 1)]) (N := N_tupled) (sc := defScope s_tupled) (by decide +kernel))
            (fun _ _ _ _ _ => pg_name (i := 1) sc_tupled.nd rfl (.inl rfl)) (fun _ _ _ _ _ => pts_nil) (fun _ _ _ _ _ => pe_cR ih hr (by rfl) T.glo (T.kp (d := d_tupled) 0) pass0 (pa_cons (pv 1) pa_nil))) pa_nil)) (pv 0)))
      case r =>
        obtain ⟨v, d, rfl, hd, hs, hQ⟩ := h
        refine ⟨_, rfl, by show 2 ≤ sizeLine; decide, fun p np => ?_⟩
        have s1 := same_new (o := .tup [V.ty "list", V.ty "tuple"]) np
        have hd1 := hd.same s1
        have e1 : upd H p (.tup [V.ty "list", V.ty "tuple"]) p = some (.tup [V.ty "list", V.ty "tuple"]) := upd_same
        generalize upd H p (.tup [V.ty "list", V.ty "tuple"]) = H1 at s1 hd1 e1 ⊢
        obtain ⟨ty, h1, h2⟩ := ty_dp hd1
        refine ⟨_, _, _, _, _, _, rfl, e1, clsV2 (K := K), h2, kit_seq h1, _, rfl, ?_⟩
        cases e : seqD d with
        | none => exact iteF ⟨_, rfl, flat hd e hQ _ s1⟩
        | some ds =>
          refine iteT ?_
          obtain ⟨m', em, hlen, hall, et⟩ := smD_seq hs e
          cases em
          obtain ⟨a, xs, rfl, hsq, hit⟩ : ∃ a xs, v = .ref a ∧ SqA K H1 a xs ∧ DpAll K H1 xs ds := by
            cases d with
            | list es =>
              cases e
              obtain ⟨a, xs, z, q1, q2⟩ := hd1.lstI
              exact ⟨a, xs, z, .inl q1, q2⟩
            | tuple es =>
              cases e
              obtain ⟨a, xs, z, q1, q2⟩ := hd1.tupI
              exact ⟨a, xs, z, .inr q1, q2⟩
            | _ => cases e
          have hl := hit.len
          refine ⟨_, rfl, a, rfl, comp_seq hsq (fAt ds fun x => some (tupN m x)) (fun D i x H2 nD hx hi acc => ?_) fun D H2 acc => ?_⟩
          · obtain ⟨di, hdi, hx1⟩ := hit.get hx
            refine ⟨rfl, yes_t ⟨x, rfl, x, di, rfl, hx1.same acc.1, hall di (List.mem_of_getElem? hdi), fun H3 y s3 hy => ?_⟩⟩
            have hn := noL_tupN m di (hall di (List.mem_of_getElem? hdi))
            exact (acc.same s3).pushN (by unfold fAt; rw [hdi]; rfl) hn hy (small1000 (by omega))
          · obtain ⟨items, eD, hI⟩ := acc.list
            refine ⟨D, items, rfl, .inl ⟨.of eD, fun l nl => hQ _ _ ((s1.trans acc.1).trans (same_new nl)) ?_⟩⟩
            rw [et]
            refine .tupM upd_same (DpAll.same (same_new nl) ?_)
            have z := fm_get ds fun x => some (tupN m x)
            rw [← hl] at z
            have z2 : (List.range xs.length).filterMap (fAt ds fun x => some (tupN m x)) = ds.map (tupN m) := by
              rw [← List.filterMap_eq_map]
              exact z
            rw [z2] at hI
            exact hI
end
end K90
end

section
set_option Elab.async false
set_option linter.all false
set_option maxRecDepth 100000
set_option maxHeartbeats 4000000
/-! Tree -/
namespace K90
open PySem PySem.Spec PyProof.Rows L2
/-! ### nodes and their sides in the heap -/
def keyK (p : Nd) : List Key := [.inl (p.1 : Int), .inl ((nE p : Nat) : Int)]
theorem keyK_inj {p q : Nd} (h : keyK p = keyK q) : keyN p = keyN q := by
  unfold keyK at h
  injection h with h1 h2
  injection h2 with h2 _
  injection h1 with h1
  injection h2 with h2
  unfold keyN
  rw [Int.ofNat.inj h1, Int.ofNat.inj h2]
/-- the tuples stand -/
def TKeep (H H' : Hp) : Prop := ∀ b xs, H b = some (.tup xs) → H' b = some (.tup xs)
theorem TKeep.of {H H' : Hp} (s : Same H H') : TKeep H H' := fun b xs e => s b _ e
theorem TKeep.keep {H H' : Hp} {l : List Addr} (k : Keep l H H') (n : NoTup H l) : TKeep H H' := fun b xs e => k b _ e fun z => (n b z _ e).1 xs rfl
theorem TKeep.trans {H H1 H2 : Hp} (a : TKeep H H1) (b : TKeep H1 H2) : TKeep H H2 := fun c xs e => b c xs (a c xs e)
theorem TKeep.upd {H : Hp} {p : Addr} {o : HO} (h : ∀ xs, H p ≠ some (.tup xs)) : TKeep H (upd H p o) := fun b xs e => by
  rw [upd_ne (fun z => by rw [z] at e; exact h xs e)]
  exact e
def NdAt (H : Hp) (v : V) (p : Nd) : Prop := ∃ b, v = .ref b ∧ H b = some (.tup [.int p.1, .int (nE p)])
abbrev NdAll (H : Hp) : List V → List Nd → Prop := Paired (NdAt H)
def SdAt (H : Hp) (v : V) (p : Nd) : Prop := ∃ b xs, v = .ref b ∧ H b = some (.tup xs) ∧ NdAll H xs (sidesT p)
theorem NdAt.keep {H H' : Hp} {v : V} {p : Nd} (k : TKeep H H') (h : NdAt H v p) : NdAt H' v p := by
  obtain ⟨b, e, q⟩ := h
  exact ⟨b, e, k _ _ q⟩
theorem NdAll.keep {H H' : Hp} (k : TKeep H H') : ∀ {vs : List V} {ps : List Nd}, NdAll H vs ps → NdAll H' vs ps
  | _, _, .nil => .nil
  | _, _, .cons h r => .cons (h.keep k) (NdAll.keep k r)
theorem SdAt.keep {H H' : Hp} {v : V} {p : Nd} (k : TKeep H H') (h : SdAt H v p) : SdAt H' v p := by
  obtain ⟨b, xs, e, q, r⟩ := h
  exact ⟨b, xs, e, k _ _ q, r.keep k⟩
/-- the dict of sides: what it has of t from n on -/
def SidesIn (H : Hp) (kvs : List (List Key × V)) (n : Nat) (t : T) : Prop := ∀ p ∈ subs n t, ∃ v, valV kvs (keyK p) = some v ∧ SdAt H v p
abbrev CT (K : PySem.W.Frag) : Addr := He.ga K "Tree"
def TreeAt (K : PySem.W.Frag) (H : Hp) (a : Addr) (t : T) : Prop := ∃ dx lb sd hd kvs, SlX.Slt H a (CT K) dx [some (.ref lb), some hd, some (.ref sd)] ∧ H lb = some (.lst (t.leaves.map .str)) ∧ H sd = some (.dT kvs) ∧ SidesIn H kvs 0 t ∧ NdAt H hd (0, t)
theorem slt_same {H H' : Hp} {a C dx : Addr} {vs : List (Option V)} (s : Same H H') (h : SlX.Slt H a C dx vs) : SlX.Slt H' a C dx vs := h.imp (fun z => ⟨s _ _ z.1, z.2⟩) (fun z => ⟨s _ _ z.1, s _ _ z.2⟩)
/-- lists and dicts stand at l -/
def Soft (H : Hp) (l : List Addr) : Prop := ∀ a ∈ l, (∃ xs, H a = some (.lst xs)) ∨ ∃ kvs, H a = some (.dT kvs)
theorem Soft.noTup {H : Hp} {l : List Addr} (s : Soft H l) : NoTup H l := fun a ha u e => by
  rcases s a ha with ⟨xs, h⟩ | ⟨kvs, h⟩ <;> (rw [h] at e; cases e; exact ⟨(fun _ z => nomatch z), (fun _ _ z => nomatch z)⟩)
theorem Soft.two {H : Hp} {p q : Addr} {xs : List V} {kvs : List (List Key × V)} (h : H p = some (.lst xs)) (h2 : H q = some (.dT kvs)) : Soft H [p, q] := fun a ha => by
  rcases List.mem_cons.mp ha with z | z
  · exact .inl ⟨xs, by rw [z]; exact h⟩
  · exact .inr ⟨kvs, by rw [List.mem_singleton.mp z]; exact h2⟩
theorem Soft.twoL {H : Hp} {p q : Addr} {xs ys : List V} (h : H p = some (.lst xs)) (h2 : H q = some (.lst ys)) : Soft H [p, q] := fun a ha => by
  rcases List.mem_cons.mp ha with z | z
  · exact .inl ⟨xs, by rw [z]; exact h⟩
  · exact .inl ⟨ys, by rw [List.mem_singleton.mp z]; exact h2⟩
theorem Soft.one {H : Hp} {p : Addr} {xs : List V} (h : H p = some (.lst xs)) : Soft H [p] := fun a ha => .inl ⟨xs, by rw [List.mem_singleton.mp ha]; exact h⟩
theorem slt_keep {H H' : Hp} {l : List Addr} {a C dx : Addr} {vs : List (Option V)} (k : Keep l H H') (n : Soft H l) (h : SlX.Slt H a C dx vs) : SlX.Slt H' a C dx vs := by
  have key : ∀ b u, H b = some u → (∀ xs, u ≠ .lst xs) → (∀ kvs, u ≠ .dT kvs) → H' b = some u := fun b u e h1 h2 => k b u e fun z => by
    rcases n b z with ⟨xs, q⟩ | ⟨kvs, q⟩
    · rw [e] at q
      exact h1 xs (Option.some.inj q)
    · rw [e] at q
      exact h2 kvs (Option.some.inj q)
  rcases h with ⟨h1, h2⟩ | ⟨h1, h2⟩
  · exact .inl ⟨key _ _ h1 (fun _ z => nomatch z) (fun _ z => nomatch z), h2⟩
  · exact .inr ⟨key _ _ h1 (fun _ z => by unfold SlX.SlO at z; cases z) (fun _ z => by unfold SlX.SlO at z; cases z), key _ _ h2 (fun _ z => nomatch z) (fun _ z => nomatch z)⟩
theorem TreeAt.same {K : PySem.W.Frag} {H H' : Hp} {a : Addr} {t : T} (s : Same H H') (h : TreeAt K H a t) : TreeAt K H' a t := by
  obtain ⟨dx, lb, sd, hd, kvs, h1, h2, h3, h4, h5⟩ := h
  refine ⟨dx, lb, sd, hd, kvs, slt_same s h1, s _ _ h2, s _ _ h3, fun p hp => ?_, h5.keep (.of s)⟩
  obtain ⟨v, e, q⟩ := h4 p hp
  exact ⟨v, e, q.keep (.of s)⟩
/-- trees that are met -/
def okT (t : T) : Prop := t.dp ≤ 20 ∧ t.size ≤ 100
theorem smD_mono : ∀ {n m : Nat} {d : PyData}, n ≤ m → smD n d = true → smD m d = true
  | 0, 0, d, _, h => h
  | 0, m + 1, d, _, h => by cases d <;> first | rfl | (simp [smD] at h)
  | n + 1, 0, d, l, h => absurd l (by omega)
  | n + 1, m + 1, d, l, h => by
    have fin : ∀ ds : List PyData, (decide (ds.length ≤ 1000) && ds.all (smD n)) = true → (decide (ds.length ≤ 1000) && ds.all (smD m)) = true := fun ds h => by
      rw [Bool.and_eq_true] at h ⊢
      exact ⟨h.1, List.all_eq_true.mpr fun x hx => smD_mono (by omega) (List.all_eq_true.mp h.2 x hx)⟩
    cases d with
    | list ds => exact fin ds h
    | tuple ds => exact fin ds h
    | dict _ => simp [smD] at h
    | _ => rfl
theorem smD_T : ∀ t : T, smD t.dp t.data = true
  | .leaf x => rfl
  | .node l r => by
    show (decide (2 ≤ 1000) && (smD (max l.dp r.dp) l.data && (smD (max l.dp r.dp) r.data && true))) = true
    rw [smD_mono (Nat.le_max_left _ _) (smD_T l), smD_mono (Nat.le_max_right _ _) (smD_T r)]
    rfl
theorem tupN_T : ∀ (n : Nat) (t : T), t.dp ≤ n → tupN n t.data = t.data
  | n, .leaf x, _ => tupN_flat rfl
  | 0, .node l r, h => absurd h (by show ¬ max l.dp r.dp + 1 ≤ 0; omega)
  | n + 1, .node l r, h => by
    have h' : max l.dp r.dp + 1 ≤ n + 1 := h
    show PyData.tuple [tupN n l.data, tupN n r.data] = _
    rw [tupN_T n l (by omega), tupN_T n r (by omega)]
    rfl
theorem smD_ok {t : T} (h : okT t) : smD 20 t.data = true := smD_mono h.1 (smD_T t)
/-- an instance that is new -/
def NewAt (H : Hp) (a C dx : Addr) : Prop := H a = some (.ins C dx []) ∧ H dx = some (.own a) ∧ dx ≠ a
theorem NewAt.slt {H : Hp} {a C dx : Addr} (h : NewAt H a C dx) : SlX.Slt H a C dx [] := .inl ⟨h.1, rfl⟩
theorem NewAt.mk {H : Hp} {x dx C : Addr} (n : dx ≠ x) : NewAt (upd (upd H dx (.own x)) x (.ins C dx [])) x C dx := ⟨upd_same, by rw [upd_ne n, upd_same], n⟩
theorem new_same {H : Hp} {x dx C : Addr} (h1 : H x = none) (h2 : H dx = none) : Same H (upd (upd H dx (.own x)) x (.ins C dx [])) := fun b u e => by
  rw [upd_ne (ne_of_none e h1), upd_ne (ne_of_none e h2)]
  exact e
/-- no list, no tuple stands at l -/
def NoSeq (H : Hp) (l : List Addr) : Prop := ∀ a ∈ l, ∀ u, H a = some u → (∀ xs, u ≠ .lst xs) ∧ (∀ xs, u ≠ .tup xs) ∧ ∀ o x, u ≠ .frz o x
theorem NewAt.noSeq {H : Hp} {a C dx : Addr} (h : NewAt H a C dx) : NoSeq H [a, dx] := fun b hb u e => by
  rcases List.mem_cons.mp hb with z | z
  · rw [z, h.1] at e
    cases e
    exact ⟨(fun _ z => nomatch z), (fun _ z => nomatch z), (fun _ _ z => nomatch z)⟩
  · rw [List.mem_singleton.mp z, h.2.1] at e
    cases e
    exact ⟨(fun _ z => nomatch z), (fun _ z => nomatch z), (fun _ _ z => nomatch z)⟩
theorem Keep.via {l m : List Addr} {H0 H H' : Hp} (a : Keep l H0 H) (b : Keep m H H') (h : ∀ x ∈ m, x ∈ l ∨ H0 x = none) : Keep l H0 H' := fun c o e n => b c o (a c o e n) fun z => by
  rcases h c z with q | q
  · exact n q
  · rw [e] at q
    cases q
theorem Keep.slH {l : List Addr} {H0 H : Hp} {a C dx : Addr} {vs : List (Option V)} (k : Keep l H0 H) (h1 : a ∈ l ∨ H0 a = none) (h2 : dx ∈ l ∨ H0 dx = none) : Keep l H0 (SlX.slH H a C dx vs) := (k.upd h2).upd h1
end K90
namespace L2
open PySem PySem.Spec PyProof.Rows K90
variable {K : PySem.W.Frag} {H H' : Hp}
mutual
theorem Dp.keepS {l : List Addr} (k : Keep l H H') (n : NoSeq H l) : ∀ {v : V} {d : PyData}, Dp K H v d → Dp K H' v d
  | _, _, .non => .non
  | _, _, .bl b => .bl b
  | _, _, .int i => .int i
  | _, _, .str x => .str x
  | _, _, @Dp.lst _ _ a xs ds h r => .lst (by
      rcases h with (h | ⟨o, h⟩) | h
      · exact .inl (.inl (k _ _ h fun z => (n _ z _ h).1 xs rfl))
      · exact .inl (.inr ⟨o, k _ _ h fun z => (n _ z _ h).2.2 _ _ rfl⟩)
      · exact .inr h) (DpAll.keepS k n r)
  | _, _, @Dp.tup _ _ a xs ds h r => .tup (by
      rcases h with (h | ⟨o, h⟩) | h
      · exact .inl (.inl (k _ _ h fun z => (n _ z _ h).2.1 xs rfl))
      · exact .inl (.inr ⟨o, k _ _ h fun z => (n _ z _ h).2.2 _ _ rfl⟩)
      · exact .inr h) (DpAll.keepS k n r)
theorem DpAll.keepS {l : List Addr} (k : Keep l H H') (n : NoSeq H l) : ∀ {vs : List V} {ds : List PyData}, DpAll K H vs ds → DpAll K H' vs ds
  | _, _, .nil => .nil
  | _, _, .cons h r => .cons (Dp.keepS k n h) (DpAll.keepS k n r)
end
end L2
namespace K90
open PySem PySem.Spec PyProof.Rows L2
/-! ### promises -/
/-- self.grown(tree), self in the making -/
def spGrown (K : PySem.W.Frag) (n : Nat) : Sp := fun vs H Q _ => ∃ a dx lb sd v bs kvs t, vs = [.ref a, v] ∧ SlX.Slt H a (CT K) dx [some (.ref lb), none, some (.ref sd)] ∧ H lb = some (.lst (bs.map .str)) ∧ H sd = some (.dT kvs) ∧ Dp K H v (T.data t) ∧ t.dp ≤ n ∧
  bs.length + t.size ≤ 1000 ∧ kvs.length + 2 * t.size ≤ 1000 ∧ (∀ p ∈ subs bs.length t, valV kvs (keyK p) = none) ∧
  ∀ H' v' kvs', Keep [lb, sd] H H' → H' lb = some (.lst ((bs ++ t.leaves).map .str)) → H' sd = some (.dT kvs') → kvs'.length + 1 = kvs.length + 2 * t.size → SidesIn H' kvs' bs.length t →
    (∀ k, (∀ p ∈ subs bs.length t, k ≠ keyK p) → valV kvs' k = valV kvs k) → NdAt H' v' (bs.length, t) → Q v' H'
def spTreeInit (K : PySem.W.Frag) : Sp := fun vs H Q _ => ∃ a dx v d t, vs = [.ref a, v] ∧ NewAt H a (CT K) dx ∧ Dp K H v d ∧ smD 20 d = true ∧ tupN 20 d = T.data t ∧ okT t ∧
  ∀ H', Keep [a, dx] H H' → TreeAt K H' a t → Q .non H'
def spTreeHead (K : PySem.W.Frag) : Sp := fun vs H Q _ => ∃ a t, vs = [.ref a] ∧ TreeAt K H a t ∧ ∀ H' v', Same H H' → NdAt H' v' (0, t) → Q v' H'
def spTreeBoxes (K : PySem.W.Frag) : Sp := fun vs H Q _ => ∃ a t, vs = [.ref a] ∧ TreeAt K H a t ∧ ∀ H' v', Same H H' → Dp K H' v' (outD t.leaves) → Q v' H'
def spTreeSides (K : PySem.W.Frag) : Sp := fun vs H Q _ => ∃ a t v p, vs = [.ref a, v] ∧ TreeAt K H a t ∧ NdAt H v p ∧ p ∈ subs 0 t ∧ ∀ H' v', Same H H' → SdAt H' v' p → Q v' H'
def spBoxesIn (K : PySem.W.Frag) : Sp := fun vs H Q _ => ∃ v d t, vs = [v] ∧ Dp K H v d ∧ smD 20 d = true ∧ tupN 20 d = T.data t ∧ okT t ∧ ∀ H' v', Same H H' → Dp K H' v' (outD t.leaves) → Q v' H'
section
variable {w : World} {K : PySem.W.Frag} {mg : Str → Option Value} {base : Heap}
theorem ok_Tree_head (T : Txt K mg) : FnX w K mg base CX0 1 ("Tree", some "head") (spTreeHead K) := by
  refine fnr (ps := ["self"]) (T.fn 3) sc_Tree_head ?ln ?bd (fun _ _ _ _ _ _ us hl => match us, hl with | [_], _ => rfl)
  case ln =>
    rintro _ _ _ _ ⟨a, t, rfl, _⟩
    rfl
  case bd =>
    intro cdv A outer s H vs Q E hr h
    apply bodyN
    case h => exact pss_one (ps_ret (SlX.pe_sl (pv 0)))
    case r =>
      obtain ⟨a, t, rfl, ht, hQ⟩ := h
      obtain ⟨dx, lb, sd, hd, kvs, h1, h2, h3, h4, h5⟩ := id ht
      exact ⟨_, rfl, a, _, dx, _, _, _, hd, rfl, h1, T.scls (x := "Tree"), T.slot (x := "Tree") (f := "own_head") (i := 1), rfl, hQ H hd (.refl H) h5⟩
theorem ok_Tree_boxes (T : Txt K mg) : FnX w K mg base CX0 1 ("Tree", some "boxes") (spTreeBoxes K) := by
  refine fnr (ps := ["self"]) (T.fn 4) sc_Tree_boxes ?ln ?bd (fun _ _ _ _ _ _ us hl => match us, hl with | [_], _ => rfl)
  case ln =>
    rintro _ _ _ _ ⟨a, t, rfl, _⟩
    rfl
  case bd =>
    intro cdv A outer s H vs Q E hr h
    apply bodyN
    case h => exact pss_one (ps_ret (pe_callTy call_tuple_of (by rfl) T.free boot_tuple (pa_cons (SlX.pe_sl (pv 0)) pa_nil)))
    case r =>
      obtain ⟨a, t, rfl, ht, hQ⟩ := h
      obtain ⟨dx, lb, sd, hd, kvs, h1, h2, h3, h4, h5⟩ := id ht
      exact ⟨_, rfl, a, _, dx, _, _, _, _, rfl, h1, T.scls (x := "Tree"), T.slot (x := "Tree") (f := "own_boxes") (i := 0), rfl, lb, _, rfl, .inl ⟨.of h2, fun l nl => hQ _ _ (same_new nl) (.strs upd_same)⟩⟩
theorem ok_Tree_sides (T : Txt K mg) : FnX w K mg base CX0 1 ("Tree", some "sides") (spTreeSides K) := by
  refine fnr (ps := ["self", "node"]) (T.fn 6) sc_Tree_sides ?ln ?bd (fun _ _ _ _ _ _ us hl => match us, hl with | [_, _], _ => rfl)
  case ln =>
    rintro _ _ _ _ ⟨a, t, v, p, rfl, _⟩
    rfl
  case bd =>
    intro cdv A outer s H vs Q E hr h
    apply bodyN
    case h => exact pss_one (ps_ret (pe_dget (hu_of hr) (SlX.pe_sl (pv 0)) (pv 1) (fun _ _ => rfl)))
    case r =>
      obtain ⟨a, t, v, p, rfl, ht, hv, hp, hQ⟩ := h
      obtain ⟨dx, lb, sd, hd, kvs, h1, h2, h3, h4, h5⟩ := id ht
      obtain ⟨b, rfl, hb⟩ := hv
      obtain ⟨y, ey, hy⟩ := h4 p hp
      refine ⟨_, rfl, a, _, dx, _, _, _, _, rfl, h1, T.scls (x := "Tree"), T.slot (x := "Tree") (f := "own_sides") (i := 2), rfl, _, rfl, sd, y, rfl, ?_, hQ H y (.refl H) hy⟩
      have g := DGet.t (k := keyK p) h3 hb
      rw [ey] at g
      exact g
theorem nd_at {H : Hp} {p : Addr} {q : Nd} (h : H p = some (.tup [.int q.1, .int (nE q)])) : NdAt H (.ref p) q := ⟨p, rfl, h⟩
theorem key_tup {q : Nd} : (keyK q).map kV = [V.int q.1, V.int (nE q)] := rfl
theorem isi_str {K : PySem.W.Frag} {d : PyData} {n : String} (h : tyD d = some n) : PySem.W.kitOne K (.type n) (.type "str") = some (match d with | .str _ => true | _ => false) := by
  cases d <;> cases h <;> kernel_rfl
theorem subs_node {l r : T} {n : Nat} {p : Nd} : p ∈ subs n (.node l r) ↔ p ∈ subs n l ∨ p ∈ subs (n + l.size) r ∨ p = (n, .node l r) := by
  rw [subs, List.mem_append, List.mem_append, List.mem_singleton]
theorem app_len {bs : List Str} {t : T} : (bs ++ t.leaves).length = bs.length + t.size := by rw [List.length_append, t.len_leaves]
/-- the promise one depth down -/
def spGrownB (K : PySem.W.Frag) : Nat → Sp
  | 0 => fun _ _ _ _ => False
  | m + 1 => spGrown K m
theorem noTup_two {H : Hp} {p q : Addr} {xs : List V} {kvs : List (List Key × V)} (h : H p = some (.lst xs)) (h2 : H q = some (.dT kvs)) : NoTup H [p, q] := fun a ha u e => by
  rcases List.mem_cons.mp ha with z | z
  · rw [z, h] at e
    cases e
    exact ⟨(fun _ z => nomatch z), (fun _ _ z => nomatch z)⟩
  · rw [List.mem_singleton.mp z, h2] at e
    cases e
    exact ⟨(fun _ z => nomatch z), (fun _ _ z => nomatch z)⟩
theorem ok_grown_step (T : Txt K mg) (n : Nat) (ih : FnX w K mg base CX0 n ("Tree", some "grown") (spGrownB K n)) : FnX w K mg base CX0 (n + 1) ("Tree", some "grown") (spGrown K n) := by
  refine fnr (ps := ["self", "tree"]) (T.fn 2) sc_Tree_grown ?ln ?bd (fun _ _ _ _ _ _ us hl => match us, hl with | [_, _], _ => rfl)
  case ln =>
    rintro _ _ _ _ ⟨a, dx, lb, sd, v, bs, kvs, t, rfl, _⟩
    rfl
  case bd =>
      intro cdv A outer s H vs Q E hr h
      apply bodyN
      case h =>
        exact pss_cons (ps_if (pt_val (pe_callB call_isi (by rfl) T.free boot_isi (pa_cons (pv 1) (pa_cons (pe_bltn (v := .ty "str") (by rfl) T.free boot_str rfl) pa_nil))))
            (pss_cons (ps_set (i := 2) sc_Tree_grown.nd rfl (.inl rfl) (pe_tup (pa_cons (pe_callB call_len_seq (by rfl) T.free PySem.boot_len (pa_cons (SlX.pe_sl (pv 0)) pa_nil)) (pa_cons (pe_op op_add (pe_callB call_len_seq (by rfl) T.free PySem.boot_len (pa_cons (SlX.pe_sl (pv 0)) pa_nil)) pe_int) pa_nil))))
            (pss_cons (ps_expr (pe_bm PySem.F.plainAttrs_list PySem.F.slot_list_append PySem.F.type_list_append mt_append (SlX.pe_sl (pv 0)) (pa_cons (pv 1) pa_nil)))
            (pss_cons (ps_dput (hu_of hr) (SlX.pe_sl (pv 0)) (pv 2) (pe_tup pa_nil) rfl)
            (pss_one (ps_ret (pv 2)))))) pss_nil)
          (pss_cons (ps_set (i := 3) sc_Tree_grown.nd rfl (.inl rfl) (pe_tup (pa_cons (SlX.pe_methSl (pv 0) (T.scls (x := "Tree")) (T.meth (x := "Tree") (m := "grown")) ih hr pass0 (pa_cons (pe_ix ix_tup (pv 1) pe_int (fun _ _ => rfl)) pa_nil))
             (pa_cons (SlX.pe_methSl (pv 0) (T.scls (x := "Tree")) (T.meth (x := "Tree") (m := "grown")) ih hr pass0 (pa_cons (pe_ix ix_tup (pv 1) pe_int (fun _ _ => rfl)) pa_nil)) pa_nil))))
          (pss_cons (ps_set (i := 2) sc_Tree_grown.nd rfl (.inl rfl) (pe_tup (pa_cons (pe_ix ix_tup (pe_ix ix_tup (pv 3) pe_int (fun _ _ => rfl)) pe_int (fun _ _ => rfl)) (pa_cons (pe_ix ix_tup (pe_ix ix_tup (pv 3) pe_int (fun _ _ => rfl)) pe_int (fun _ _ => rfl)) pa_nil))))
          (pss_cons (ps_dput (hu_of hr) (SlX.pe_sl (pv 0)) (pv 2) (pv 3) rfl)
          (pss_one (ps_ret (pv 2))))))
      case r =>
        obtain ⟨a, dx, lb, sd, v, bs, kvs, t, rfl, hsl, hlb, hsd, hv, hdp, hz1, hz2, hnew, hQ⟩ := h
        have neLS : lb ≠ sd := fun z => by rw [z, hsd] at hlb; cases hlb
        cases t with
        | leaf x =>
          obtain rfl := leafI hv
          refine ⟨_, rfl, _, _, _, _, _, rfl, .ty "str", .base (.str x), kit_ty (r := true) (by decide +kernel), _, rfl, iteT ?_⟩
          refine ⟨_, rfl, a, _, dx, _, _, _, _, rfl, hsl, T.scls (x := "Tree"), T.slot (x := "Tree") (f := "own_boxes") (i := 0), rfl, lb, _, rfl, .inl (.of hlb), ?_⟩
          refine ⟨_, rfl, a, _, dx, _, _, _, _, rfl, hsl, T.scls (x := "Tree"), T.slot (x := "Tree") (f := "own_boxes") (i := 0), rfl, lb, _, rfl, .inl (.of hlb), ?_⟩
          refine ⟨_, _, rfl, rfl, by show 2 ≤ sizeLine; decide, fun p np => ?_⟩
          have s1 : Same H (upd H p (.tup [.int ((bs.map V.str).length : Nat), .int (((bs.map V.str).length : Nat) + 1)])) := same_new np
          have e1 : upd H p (.tup [.int ((bs.map V.str).length : Nat), .int (((bs.map V.str).length : Nat) + 1)]) p = some _ := upd_same
          generalize upd H p (.tup [.int ((bs.map V.str).length : Nat), .int (((bs.map V.str).length : Nat) + 1)]) = H1 at s1 e1 ⊢
          refine ⟨_, rfl, a, _, dx, _, _, _, _, rfl, slt_same s1 hsl, T.scls (x := "Tree"), T.slot (x := "Tree") (f := "own_boxes") (i := 0), rfl, .inl ⟨rfl, _, .of (s1 _ _ hlb)⟩, _, rfl, _, _, _, rfl, rfl, s1 _ _ hlb, small1000 (by rw [List.length_map]; have := hz1; omega), ?_⟩
          have n1 : H1 lb = some (.lst (bs.map V.str)) := s1 _ _ hlb
          have k2 : Keep [lb, sd] H1 (upd H1 lb (.lst (bs.map V.str ++ [V.str x]))) := (Keep.of (.refl H1) _).upd (.inl (by simp))
          have t2 : TKeep H1 (upd H1 lb (.lst (bs.map V.str ++ [V.str x]))) := TKeep.upd fun xs z => by rw [n1] at z; cases z
          have e2 : upd H1 lb (.lst (bs.map V.str ++ [V.str x])) lb = some (.lst ((bs ++ [x]).map V.str)) := by rw [upd_same, List.map_append]; rfl
          have e3 : upd H1 lb (.lst (bs.map V.str ++ [V.str x])) sd = some (.dT kvs) := by rw [upd_ne (Ne.symm neLS)]; exact s1 _ _ hsd
          have hs2 : SlX.Slt (upd H1 lb (.lst (bs.map V.str ++ [V.str x]))) a (CT K) dx [some (.ref lb), none, some (.ref sd)] := slt_keep k2 (.two n1 (s1 _ _ hsd)) (slt_same s1 hsl)
          generalize upd H1 lb (.lst (bs.map V.str ++ [V.str x])) = H2 at k2 t2 e2 e3 hs2 ⊢
          refine ⟨by show 0 ≤ sizeLine; decide, fun q nq => ?_⟩
          have s3 : Same H2 (upd H2 q (.tup [])) := same_new nq
          have e4 : upd H2 q (.tup []) q = some (.tup []) := upd_same
          generalize upd H2 q (.tup []) = H3 at s3 e4 ⊢
          have ep : H3 p = some (.tup [.int ((bs.map V.str).length : Nat), .int (((bs.map V.str).length : Nat) + 1)]) := s3 _ _ (t2 _ _ e1)
          rw [List.length_map] at ep
          have n3 : H3 sd = some (.dT kvs) := s3 _ _ e3
          have nd : valV kvs (keyK (bs.length, .leaf x)) = none := hnew _ (List.mem_singleton.mpr rfl)
          refine ⟨_, rfl, a, _, dx, _, _, _, _, rfl, slt_same s3 hs2, T.scls (x := "Tree"), T.slot (x := "Tree") (f := "own_sides") (i := 2), rfl, _, rfl, sd, _, rfl, DPut.t (k := keyK (bs.length, .leaf x)) n3 ep (small1000 (by have : kvs.length + 2 * 1 ≤ 1000 := hz2; omega)), _, rfl, ?_⟩
          have t4 : TKeep H3 (upd H3 sd (.dT (putK kvs (keyK (bs.length, .leaf x)) (.ref q)))) := TKeep.upd fun xs z => by rw [n3] at z; cases z
          refine hQ _ _ (putK kvs (keyK (bs.length, .leaf x)) (.ref q)) ((((Keep.of s1 _).trans k2).trans (.of s3 _)).upd (.inl (by simp))) ?_ upd_same ?_ ?_ ?_ ⟨p, rfl, t4 _ _ ep⟩
          · rw [upd_ne neLS]
            exact s3 _ _ e2
          · rw [putK_new _ nd, List.length_append]
            rfl
          · intro z hz
            rw [List.mem_singleton.mp hz]
            exact ⟨.ref q, by rw [valV_put, if_pos rfl], q, [], rfl, t4 _ _ e4, .nil⟩
          · intro k hk
            rw [valV_put, if_neg (hk _ (List.mem_singleton.mpr rfl))]
        | node l r =>
          obtain ⟨b, x, y, rfl, hsq, hl, hr'⟩ := nodeI hv
          have hdp' : max l.dp r.dp + 1 ≤ n := hdp
          have hz1' : bs.length + (l.size + r.size) ≤ 1000 := hz1
          have hz2' : kvs.length + 2 * (l.size + r.size) ≤ 1000 := hz2
          have pl := l.size_pos
          have pr := r.size_pos
          obtain ⟨ty, h1, h2⟩ := ty_dp hv
          cases n with
          | zero => omega
          | succ m =>
          refine ⟨_, rfl, _, _, _, _, _, rfl, .ty "str", h2, isi_str h1, _, rfl, iteF ?_⟩
          refine ⟨_, rfl, a, dx, _, rfl, hsl, _, rfl, _, _, 0, _, rfl, rfl, hsq, atI_nat (j := 0) rfl, ?_⟩
          refine ⟨a, dx, lb, sd, _, bs, kvs, l, rfl, hsl, hlb, hsd, hl, by omega, by omega, by omega, fun p hp => hnew p (subs_node.mpr (.inl hp)), fun H1 v1 kvs1 k1 e1 e2 len1 si1 un1 nd1 => ?_⟩
          have f0 := Soft.two hlb hsd
          have f1 := Soft.two e1 e2
          have hsl1 := slt_keep k1 f0 hsl
          have hv1 : Dp K H1 (.ref b) (K90.T.node l r).data := Dp.keep k1 f0.noTup (noL_T _) hv
          obtain ⟨b', x', y', eb, hsq1, hl1, hr1⟩ := nodeI hv1
          cases eb
          refine ⟨_, rfl, a, dx, _, rfl, hsl1, _, rfl, _, _, 1, _, rfl, rfl, hsq1, atI_nat (j := 1) rfl, ?_⟩
          refine ⟨a, dx, lb, sd, _, bs ++ l.leaves, kvs1, r, rfl, hsl1, e1, e2, hr1, by omega, by rw [app_len]; omega, by omega, fun p hp => ?_, fun H2 v2 kvs2 k2 g1 g2 len2 si2 un2 nd2 => ?_⟩
          · rw [app_len] at hp
            rw [un1 _ fun q hq z => ?_]
            · exact hnew p (subs_node.mpr (.inr (.inl hp)))
            · have z' := keyK_inj z
              have ra := subs_range _ _ _ hp
              have rb := subs_range _ _ _ hq
              have za : p.1 = q.1 := (Prod.mk.inj z').1
              have gq := nE_gt q
              omega
          have f2 := Soft.two g1 g2
          rw [app_len] at si2 un2 nd2
          have hsl2 := slt_keep k2 f1 hsl1
          have nd1' : NdAt H2 v1 (bs.length, l) := nd1.keep (.keep k2 f1.noTup)
          obtain ⟨q1, rfl, eq1⟩ := nd1'
          obtain ⟨q2, rfl, eq2⟩ := nd2
          refine ⟨by show 2 ≤ sizeLine; decide, fun q nq => ?_⟩
          have s3 : Same H2 (upd H2 q (.tup [.ref q1, .ref q2])) := same_new nq
          have e4 : upd H2 q (.tup [.ref q1, .ref q2]) q = some (.tup [.ref q1, .ref q2]) := upd_same
          generalize upd H2 q (.tup [.ref q1, .ref q2]) = H3 at s3 e4 ⊢
          refine ⟨_, rfl, _, _, 0, _, rfl, rfl, .of e4, atI_nat (j := 0) rfl, _, _, 0, _, rfl, rfl, .of (s3 _ _ eq1), atI_nat (j := 0) rfl, ?_⟩
          refine ⟨_, rfl, _, _, 1, _, rfl, rfl, .of e4, atI_nat (j := 1) rfl, _, _, 1, _, rfl, rfl, .of (s3 _ _ eq2), atI_nat (j := 1) rfl, ?_⟩
          refine ⟨by show 2 ≤ sizeLine; decide, fun p np => ?_⟩
          have en : ((nE (bs.length + l.size, r) : Nat) : Int) = ((nE (bs.length, K90.T.node l r) : Nat) : Int) := by
            show ((bs.length + l.size + r.size : Nat) : Int) = ((bs.length + (l.size + r.size) : Nat) : Int)
            rw [Nat.add_assoc]
          have s5 : Same H3 (upd H3 p (.tup [.int bs.length, .int (nE (bs.length + l.size, r))])) := same_new np
          have e5 : upd H3 p (.tup [.int bs.length, .int (nE (bs.length + l.size, r))]) p = some (.tup [.int bs.length, .int (nE (bs.length + l.size, r))]) := upd_same
          rw [show (V.int ((bs.length, l) : Nd).1) = V.int bs.length from rfl]
          generalize upd H3 p (.tup [.int bs.length, .int (nE (bs.length + l.size, r))]) = H4 at s5 e5 ⊢
          rw [en] at e5
          have n4 : H4 sd = some (.dT kvs2) := s5 _ _ (s3 _ _ g2)
          refine ⟨_, rfl, _, rfl, a, _, dx, _, _, _, _, rfl, slt_same (s3.trans s5) hsl2, T.scls (x := "Tree"), T.slot (x := "Tree") (f := "own_sides") (i := 2), rfl, _, rfl, sd, _, rfl, DPut.t (k := keyK (bs.length, .node l r)) n4 e5 (small1000 (by omega)), _, rfl, ?_⟩
          have t6 : TKeep H4 (upd H4 sd (.dT (putK kvs2 (keyK (bs.length, .node l r)) (.ref q)))) := TKeep.upd fun xs z => by rw [n4] at z; cases z
          have nn : ∀ p', p' ∈ subs bs.length l ∨ p' ∈ subs (bs.length + l.size) r → keyK p' ≠ keyK (bs.length, .node l r) := fun p' hp' z => by
            refine subs_fresh_node l r bs.length (List.mem_map.mpr ⟨p', ?_, keyK_inj z⟩)
            exact List.mem_append.mpr hp'
          have nd0 : valV kvs2 (keyK (bs.length, .node l r)) = none := by
            rw [un2 _ fun p' hp' z => nn p' (.inr hp') z.symm, un1 _ fun p' hp' z => nn p' (.inl hp') z.symm]
            exact hnew _ (subs_self _ _)
          refine hQ _ _ (putK kvs2 (keyK (bs.length, .node l r)) (.ref q)) ((((k1.trans k2).trans (.of s3 _)).trans (.of s5 _)).upd (.inl (by simp))) ?_ upd_same ?_ ?_ ?_ ⟨p, rfl, t6 _ _ e5⟩
          · rw [upd_ne neLS]
            have z := s5 _ _ (s3 _ _ g1)
            rw [List.append_assoc] at z
            exact z
          · rw [putK_new _ nd0, List.length_append]
            show kvs2.length + 1 + 1 = kvs.length + 2 * (l.size + r.size)
            omega
          · intro z hz
            rw [valV_put]
            rcases subs_node.mp hz with h | h | h
            · rw [if_neg (nn z (.inl h)), un2 _ fun p' hp' e => ?_]
              · obtain ⟨v, ev, hv⟩ := si1 z h
                exact ⟨v, ev, hv.keep (((TKeep.keep k2 f1.noTup).trans (.of s3)).trans ((TKeep.of s5).trans t6))⟩
              · have z' := keyK_inj e
                have ra := subs_range _ _ _ h
                have rb := subs_range _ _ _ hp'
                have za : z.1 = p'.1 := (Prod.mk.inj z').1
                have gq := nE_gt z
                omega
            · rw [if_neg (nn z (.inr h))]
              obtain ⟨v, ev, hv⟩ := si2 z h
              exact ⟨v, ev, hv.keep ((TKeep.of s3).trans ((TKeep.of s5).trans t6))⟩
            · subst h
              rw [if_pos rfl]
              exact ⟨.ref q, rfl, q, _, rfl, t6 _ _ (s5 _ _ e4), .cons ⟨q1, rfl, t6 _ _ (s5 _ _ (s3 _ _ eq1))⟩ (.cons ⟨q2, rfl, t6 _ _ (s5 _ _ (s3 _ _ eq2))⟩ .nil)⟩
          · intro k hk
            rw [valV_put, if_neg (hk _ (subs_self _ _)), un2 _ fun p' hp' => hk p' (subs_node.mpr (.inr (.inl hp'))), un1 _ fun p' hp' => hk p' (subs_node.mpr (.inl hp'))]
theorem ok_Tree_grown (T : Txt K mg) : ∀ n, FnX w K mg base CX0 (n + 1) ("Tree", some "grown") (spGrown K n)
  | 0 => ok_grown_step T 0 fun _ _ _ _ _ _ _ _ _ _ _ h => h.elim
  | n + 1 => ok_grown_step T (n + 1) (ok_Tree_grown T n)
theorem ok_Tree_init (T : Txt K mg) : FnX w K mg base CX0 22 ("Tree", some "__init__") (spTreeInit K) := by
  have FT := ok_tupled (w := w) (base := base) T 20
  have FG := ok_Tree_grown (w := w) (base := base) T 20
  refine fnr (ps := ["self", "tree"]) (T.fn 1) sc_Tree_init ?ln ?bd (fun _ _ _ _ _ _ us hl => match us, hl with | [_, _], _ => rfl)
  case ln =>
    rintro _ _ _ _ ⟨a, dx, v, d, t, rfl, _⟩
    rfl
  case bd =>
    intro cdv A outer s H vs Q E hr h
    apply bodyN
    case h => exact pss_cons (SlX.ps_sl (pv 0) (pe_lst pa_nil)) (pss_cons (SlX.ps_sl (pv 0) pe_dnewT) (pss_one (SlX.ps_sl (pv 0)
        (SlX.pe_methSl (pv 0) (T.scls (x := "Tree")) (T.meth (x := "Tree") (m := "grown")) FG hr pass0 (pa_cons (pe_cR FT hr (by rfl) T.glo (T.kp (d := d_tupled) 0) pass0 (pa_cons (pv 1) pa_nil)) pa_nil)))))
    case r =>
      obtain ⟨a, dx, v, d, t, rfl, hn, hv, hs, ht, ok, hQ⟩ := h
      refine ⟨by show 0 ≤ sizeLine; decide, fun p np => ?_⟩
      have s1 : Same H (upd H p (.lst [])) := same_new np
      have e1 : upd H p (.lst []) p = some (.lst []) := upd_same
      have k1 : Keep [a, dx] H (upd H p (.lst [])) := .of s1 _
      generalize upd H p (.lst []) = H1 at s1 e1 k1 ⊢
      have pa : p ≠ a := Ne.symm (ne_of_none hn.1 np)
      have pd : p ≠ dx := Ne.symm (ne_of_none hn.2.1 np)
      refine ⟨_, rfl, a, _, dx, _, [], _, rfl, slt_same s1 hn.slt, T.scls (x := "Tree"), T.slot (x := "Tree") (f := "own_boxes") (i := 0), ?_⟩
      have e2 : SlX.slH H1 a (CT K) dx (SlX.putS 0 (.ref p) []) p = some (.lst []) := by rw [SlX.slH_ne pa pd]; exact e1
      have t2 : SlX.Slt (SlX.slH H1 a (CT K) dx (SlX.putS 0 (.ref p) [])) a (CT K) dx [some (.ref p)] := SlX.slH_slt hn.2.2
      have k2 : Keep [a, dx] H (SlX.slH H1 a (CT K) dx (SlX.putS 0 (.ref p) [])) := k1.slH (.inl (by simp)) (.inl (by simp))
      have n2a : ∃ u, SlX.slH H1 a (CT K) dx (SlX.putS 0 (.ref p) []) a = some u := ⟨_, upd_same⟩
      have n2d : ∃ u, SlX.slH H1 a (CT K) dx (SlX.putS 0 (.ref p) []) dx = some u := ⟨_, by unfold SlX.slH; rw [upd_ne hn.2.2, upd_same]⟩
      generalize SlX.slH H1 a (CT K) dx (SlX.putS 0 (.ref p) []) = H2 at e2 t2 k2 n2a n2d ⊢
      intro q nq
      have s3 : Same H2 (upd H2 q (.dT [])) := same_new nq
      have e3 : upd H2 q (.dT []) q = some (.dT []) := upd_same
      generalize upd H2 q (.dT []) = H3 at s3 e3 ⊢
      have qa : q ≠ a := fun z => by obtain ⟨u, e⟩ := n2a; rw [← z, nq] at e; cases e
      have qd : q ≠ dx := fun z => by obtain ⟨u, e⟩ := n2d; rw [← z, nq] at e; cases e
      have qH : H q = none := by
        cases z : H q with
        | none => rfl
        | some o => rw [k2 q o z (by simp [qa, qd])] at nq; cases nq
      refine ⟨_, rfl, a, _, dx, _, _, _, rfl, slt_same s3 t2, T.scls (x := "Tree"), T.slot (x := "Tree") (f := "own_sides") (i := 2), ?_⟩
      have ev : SlX.putS 2 (.ref q) [some (V.ref p)] = [some (.ref p), none, some (.ref q)] := rfl
      rw [ev]
      have e4 : SlX.slH H3 a (CT K) dx [some (.ref p), none, some (.ref q)] p = some (.lst []) := by rw [SlX.slH_ne pa pd]; exact s3 _ _ e2
      have e5 : SlX.slH H3 a (CT K) dx [some (.ref p), none, some (.ref q)] q = some (.dT []) := by rw [SlX.slH_ne qa qd]; exact e3
      have t4 : SlX.Slt (SlX.slH H3 a (CT K) dx [some (.ref p), none, some (.ref q)]) a (CT K) dx [some (.ref p), none, some (.ref q)] := SlX.slH_slt hn.2.2
      have k4 : Keep [a, dx] H (SlX.slH H3 a (CT K) dx [some (.ref p), none, some (.ref q)]) := (k2.trans (.of s3 _)).slH (.inl (by simp)) (.inl (by simp))
      generalize SlX.slH H3 a (CT K) dx [some (.ref p), none, some (.ref q)] = H4 at e4 e5 t4 k4 ⊢
      refine ⟨_, rfl, a, dx, _, rfl, t4, _, rfl, v, d, rfl, hv.keepS k4 hn.noSeq, hs, fun H5 v5 s5 h5 => ?_⟩
      rw [ht] at h5
      refine ⟨a, dx, p, q, v5, [], [], t, rfl, slt_same s5 t4, s5 _ _ e4, s5 _ _ e5, h5, ok.1, by have := ok.2; simp; omega, by have := ok.2; simp; omega, fun _ _ => rfl, fun H6 v6 kvs k6 g1 g2 _ si _ nd => ?_⟩
      have t6 := slt_keep k6 (.two (s5 _ _ e4) (s5 _ _ e5)) (slt_same s5 t4)
      refine ⟨_, rfl, a, _, dx, _, _, _, rfl, t6, T.scls (x := "Tree"), T.slot (x := "Tree") (f := "own_head") (i := 1), ?_⟩
      have ev : SlX.putS 1 v6 [some (V.ref p), none, some (.ref q)] = [some (.ref p), some v6, some (.ref q)] := rfl
      rw [ev]
      have k7 : Keep [a, dx] H (SlX.slH H6 a (CT K) dx [some (.ref p), some v6, some (.ref q)]) := (((k4.trans (.of s5 _)).via k6 fun x hx => .inr (by
        rcases List.mem_cons.mp hx with z | z
        · rw [z]; exact np
        · rw [List.mem_singleton.mp z]; exact qH)).slH (.inl (by simp)) (.inl (by simp)))
      have tk : TKeep H6 (SlX.slH H6 a (CT K) dx [some (.ref p), some v6, some (.ref q)]) := fun b xs e => by
        have hh : b ≠ a ∧ b ≠ dx := by
          rcases t6 with ⟨h1, h2⟩ | ⟨h1, h2⟩
          · cases h2
          · exact ⟨ne_of e h1 (fun z => by unfold SlX.SlO at z; cases z), ne_of e h2 (fun z => nomatch z)⟩
        rw [SlX.slH_ne hh.1 hh.2]
        exact e
      refine hQ _ k7 ⟨dx, p, q, v6, kvs, SlX.slH_slt hn.2.2, by rw [SlX.slH_ne pa pd]; exact g1, by rw [SlX.slH_ne qa qd]; exact g2, fun z hz => ?_, nd.keep tk⟩
      obtain ⟨y, ey, hy⟩ := si z hz
      exact ⟨y, ey, hy.keep tk⟩
theorem ok_boxes_in (T : Txt K mg) : FnX w K mg base CX0 24 ("boxes_in", none) (spBoxesIn K) := by
  have FI := ok_Tree_init (w := w) (base := base) T
  have FB := ok_Tree_boxes (w := w) (base := base) T
  refine fnr (ps := ["tree"]) (T.fn 8) sc_boxes_in ?ln ?bd (fun _ _ _ _ _ _ us hl => match us, hl with | [_], _ => rfl)
  case ln =>
    rintro _ _ _ _ ⟨v, d, t, rfl, _⟩
    rfl
  case bd =>
    intro cdv A outer s H vs Q E hr h
    apply bodyN
    case h => exact pss_one (ps_ret (SlX.pe_methSl0 (StX.pe_makeR (T.mkr (x := "Tree")) FI (hr.mono (by decide)) (by rfl) T.glo pass0 (pa_cons (pv 0) pa_nil)) (T.scls (x := "Tree")) (T.meth (x := "Tree") (m := "boxes")) FB (hr.mono (by decide)) pass0))
    case r =>
      obtain ⟨v, d, t, rfl, hv, hs, ht, ok, hQ⟩ := h
      refine ⟨_, rfl, fun x dx nx nd ne => ?_⟩
      have s1 : Same H (upd (upd H dx (.own x)) x (.ins (CT K) dx [])) := new_same nx nd
      have na : NewAt (upd (upd H dx (.own x)) x (.ins (CT K) dx [])) x (CT K) dx := .mk ne
      have sd : ∀ {H' : Hp}, Keep [x, dx] (upd (upd H dx (.own x)) x (.ins (CT K) dx [])) H' → Same H H' := fun k b u e => k b u (s1 b u e) (by simp [ne_of_none e nx, ne_of_none e nd])
      refine ⟨x, dx, v, d, t, rfl, na, hv.same s1, hs, ht, ok, fun H1 k1 t1 => ⟨rfl, ?_⟩⟩
      have t1' := t1
      obtain ⟨dx', lb, sd', hd, kvs, h1, h2⟩ := t1
      exact ⟨x, dx', _, rfl, h1, x, t, rfl, t1', fun H2 v2 s2 h2 => hQ H2 v2 ((sd k1).trans s2) h2⟩
end
end K90
end

section
set_option Elab.async false
set_option linter.all false
set_option maxRecDepth 100000
set_option maxHeartbeats 4000000
/-! sorted of lists, tuples and sets; sets of texts -/
namespace K90
open PySem PySem.W PySem.Calls PySem.Spec PyProof.Rows L2
section
variable {prog : Program} {w : World} {A : Around} {E : Value → Shared → Prop} {s : Shared}
theorem sortingOld {h : Heap} {vs : List Value} {b : Addr} {o : Obj} (e : h.get? b = some o) : (sortingHeap (h.push (seqObj "list" vs.toArray 0)) h.objs.size vs).get? b = some o :=
  sortingHeap_old (Nat.ne_of_lt (Heap.lt_size e)) (Heap.get?_push_of_some _ e)
theorem sortedOld {h : Heap} {vs : List Value} {out : Array Value} {b : Addr} {o : Obj} (e : h.get? b = some o) : (sortedHeap (h.push (seqObj "list" vs.toArray 0)) h.objs.size vs out).get? b = some o := by
  have hlt := Heap.lt_size e
  rw [sortedHeap_old (Nat.ne_of_lt hlt) (by rw [size_push']; exact Nat.lt_succ_of_lt hlt)]
  exact Heap.get?_push_of_some _ e
/-- a list's or a tuple's items gathered: the heap has grown -/
theorem collect_grown {Q : List Value → Shared → Prop} (a : Addr) {T : String} {o : Obj} {items : Array Value} {n : Nat} (hT : T = "list" ∨ T = "tuple") (ho : s.heap.get? a = some o) (hc : o.cls = .type T) (hd : o.data = .seq items n) (hsz : items.size ≤ sizeLine)
    (hQ : ∀ h', (∀ b o', s.heap.get? b = some o' → h'.get? b = some o') → s.heap.objs.size ≤ h'.objs.size → Q items.toList { s with heap := h' }) : wpAny (model prog w) A (collect (.ref a)) Q E s := by
  let h1 : Heap := s.heap.push { cls := .type "list", data := .seq ([] : List Value).toArray }
  let h2 : Heap := h1.update s.heap.objs.size (Obj.mapSeq (· ++ items))
  have e1 : h1.get? s.heap.objs.size = some { cls := .type "list", data := .seq #[] 0 } := Heap.get?_push_size _ rfl
  have e2 := Heap.get?_update_self (Obj.mapSeq (· ++ items)) e1 rfl
  have kp : ∀ b o', s.heap.get? b = some o' → h2.get? b = some o' := fun b o' hb => (Heap.get?_update_other _ _ (Nat.ne_of_gt (Heap.lt_size hb))).trans (Heap.get?_push_of_some _ hb)
  have sz : s.heap.objs.size ≤ h2.objs.size := by
    show s.heap.objs.size ≤ (h1.update s.heap.objs.size (Obj.mapSeq (· ++ items))).objs.size
    rw [Heap.size_update, Heap.size_push]
    exact Nat.le_succ _
  have last : ∀ fl, fl = Flow.ret (.ref s.heap.objs.size) → wpAny (model prog w) A (do
      let o ← load s.heap.objs.size
      match o.data with
      | .seq xs _ => pure xs.toList
      | _ => unsupported "internal:collect") Q E { s with heap := h2 } := fun _ _ => by
    refine wpAny_bind (wpAny_load e2 (wpAny_pure ?_))
    rw [show ((#[] : Array Value) ++ items).toList = items.toList by simp]
    exact hQ h2 kp sz
  unfold collect
  refine wpAny_bind (wpAny_runValue (codeAny_builtin F.entry_proto_collect ?_))
  rw [Around.under_plainId F.plain_proto_collect _]
  show wpAny _ A.in1 (newList [] >>= fun l => again (.builtin "list.__iadd__" ⟨[l, .ref a], []⟩)) _ _ s
  refine wpAny_bind (wpAny_newObj_type (wpAny_pure ⟨plainId_quiet F.plain_list_iadd _, codeAny_builtin F.entry_list_iadd ?_⟩))
  rw [Around.under_plainId F.plain_list_iadd _]
  refine wpAny_mono (wpAny_extend_seq (hsz := hsz) (A := A) (R := fun r s' => r = .ok (.ret (.ref s.heap.objs.size)) ∧ s' = { s with heap := h2 }) (s := { s with heap := h1 }) _ a _ 0 hT e1 (Heap.get?_push_of_some _ ho) hc hd ⟨rfl, rfl⟩) (fun fin s' h => ?_) (fun e s' h => ?_)
  · cases fin with
    | done f =>
      obtain ⟨z, rfl⟩ := h
      cases z
      exact last _ rfl
    | again c' => exact ⟨h.1, codeAny_mono h.2 fun r s'' hr => by obtain ⟨rfl, rfl⟩ := hr; exact last _ rfl⟩
  · exact absurd h.1 (by simp)
/-- sorted(x), what x gathers told by Bs -/
theorem sorted_gen {x : Value} {β : Type} {enc : β → PyData} {R : Value → β → Prop} {Bs : List β → Prop} {Q : Value → Shared → Prop}
    (hcol : ∀ (Q' : List Value → Shared → Prop) (E' : Value → Shared → Prop), (∀ s1 vs bs, Bs bs → (∀ b o, s.heap.get? b = some o → s1.heap.get? b = some o) → s.heap.objs.size ≤ s1.heap.objs.size → s1.gens = s.gens → s1.os = s.os → EachIs R vs bs →
      EachIs (fun v b => ∃ as, Reads s1.heap v (enc b) as) vs bs → Q' vs s1) → wpAny (model prog w) A.in1 (collect x) Q' E' s)
    (hal : ∀ bs, Bs bs → AllAlike (bs.map enc)) (hk : ∀ bs, Bs bs → Sortable (bs.map enc)) (hL : ∀ bs, Bs bs → bs.length ≤ sizeLine) (hu : ∀ bs, Bs bs → ∀ b, b ∈ bs → A.units + 2 + (enc b).depth < cLine)
    (hQ : ∀ s' p (out : List Value) (c : Nat) bs, Bs bs → (∀ b o, s.heap.get? b = some o → s'.heap.get? b = some o) → s'.gens = s.gens → s'.os = s.os → s.heap.objs.size ≤ p → s'.heap.get? p = some (seqObj "list" out.toArray c) →
      EachIs R out (bs.mergeSort (dataLe false enc)) → Q (.ref p) s') :
    wpAny (model prog w) A (call (.builtin "sorted") [x]) Q E s := by
  refine Calls.call_function_entry kind_sorted plain_sorted entry_sorted (args_sorted1 _) ?_
  unfold Builtin.«sorted»
  refine wpAny_bind (m := checkCount "sorted" 1 1 _) (wpAny_pure ?_)
  refine wpAny_bind (hcol _ _ fun s1 vs bs hB k1 hz g1 o1 e er => ?_)
  refine wpAny_bind (wpAny_newList ?_ (by rw [e.length]; exact hL bs hB))
  have hoL : (s1.heap.push (seqObj "list" vs.toArray 0)).get? s1.heap.objs.size = some (seqObj "list" vs.toArray 0) := Heap.get?_push_size _ rfl
  have er' : EachIs (fun v b => ∃ as, Reads (sortingHeap (s1.heap.push (seqObj "list" vs.toArray 0)) s1.heap.objs.size vs) v (enc b) as) vs bs := er.mono fun _ _ ⟨as, r⟩ => ⟨as, PyProof.Rows.Reads.keeps (fun _ _ q => sortingOld q) r⟩
  refine wpAny_bind (wpAny_holding (wpAny_call_entry slot_list_sort ⟨_, hoL, rfl⟩ entry_list_sort (list_sort_vals (κ := dataKind (sortingHeap (s1.heap.push (seqObj "list" vs.toArray 0)) s1.heap.objs.size vs) (bs.map enc)) hoL
    (SortsAt.data (s := { s1 with heap := sortingHeap (s1.heap.push (seqObj "list" vs.toArray 0)) s1.heap.objs.size vs }) (each_map (R := fun v d => ∃ as, Reads (sortingHeap (s1.heap.push (seqObj "list" vs.toArray 0)) s1.heap.objs.size vs) v d as) enc er') (hal bs hB) (hk bs hB) (bound_map (hu bs hB))) (by rw [e.length]; exact hL bs hB) ⟨.none, rfl, ?_⟩) (args_list_sort _)))
  have hlen : (sortVals (dataKind (sortingHeap (s1.heap.push (seqObj "list" vs.toArray 0)) s1.heap.objs.size vs) (bs.map enc)) false vs vs).length = bs.length := by rw [sortVals_length false rfl]; exact e.length
  have hR := sortVals_data false e er' (hal bs hB)
  generalize sortVals (dataKind (sortingHeap (s1.heap.push (seqObj "list" vs.toArray 0)) s1.heap.objs.size vs) (bs.map enc)) false vs vs = out at hlen hR ⊢
  obtain ⟨c, hc⟩ := sortedHeap_at (vs := vs) (out := out.toArray) hoL
  exact wpAny_pure ⟨_, rfl, hQ { s1 with heap := sortedHeap (s1.heap.push (seqObj "list" vs.toArray 0)) s1.heap.objs.size vs out.toArray } _ out c bs hB (fun b u q => sortedOld (k1 b u q)) g1 o1 hz hc hR⟩
end
/-! ### the rule over lists and tuples -/
theorem each_of {K : PySem.W.Frag} {X : Cx} {pins : List (Addr × Obj)} {σ : L2.St} {H : Hp} {s : Shared} {β : Type} {enc : β → PyData} {Rv : V → β → Prop} (I : Inv X pins σ H s) (hd : ∀ x b, Rv x b → Dp X.K H x (enc b)) : ∀ {vs : List V} {us : List Value} {bs : List β}, Vals vs us → Paired Rv vs bs →
    EachIs (fun u b => ∃ x, RelV x u ∧ Rv x b) us bs ∧ EachIs (fun u b => ∃ as, Reads s.heap u (enc b) as) us bs
  | _, _, _, .nil, .nil => ⟨.nil, .nil⟩
  | _, _, _, .cons r t, .cons h q => by
    obtain ⟨a, b⟩ := each_of (K := K) I hd t q
    exact ⟨.cons ⟨_, r, h⟩ a, .cons (Dp.reads I _ _ _ (hd _ _ h) r) b⟩
theorem each_vals {β : Type} {Rv : V → β → Prop} : ∀ {us : List Value} {bs : List β}, EachIs (fun u b => ∃ x, RelV x u ∧ Rv x b) us bs → ∃ vs, Vals vs us ∧ Paired Rv vs bs
  | _, _, .nil => ⟨[], .nil, .nil⟩
  | _, _, .cons ⟨x, r, h⟩ t => by
    obtain ⟨vs, a, b⟩ := each_vals t
    exact ⟨x :: vs, .cons r a, .cons h b⟩
theorem each_mono {α β : Type} {R R' : α → β → Prop} (h : ∀ a b, R a b → R' a b) : ∀ {l : List α} {m : List β}, EachIs R l m → EachIs R' l m
  | _, _, .nil => .nil
  | _, _, .cons r t => .cons (h _ _ r) (each_mono h t)
/-- alike, below a depth, of a length -/
structure SrtOk {β : Type} (enc : β → PyData) (bs : List β) : Prop where
  al : AllAlike (bs.map enc)
  so : Sortable (bs.map enc)
  le : bs.length ≤ 1000
  dp : ∀ b ∈ bs, (enc b).depth ≤ 60
def rSrt {β : Type} (K : PySem.W.Frag) (enc : β → PyData) (Rv : Hp → V → β → Prop) : List V → Hp → VK → Prop := fun xs H Q => ∃ (a : Addr) (vs : List V) (bs : List β), xs = [.ref a] ∧ SqA K H a vs ∧ Paired (Rv H) vs bs ∧ (∀ x b, Rv H x b → Dp K H x (enc b)) ∧ SrtOk enc bs ∧
  ∀ p outs, H p = none → Paired (Rv H) outs (bs.mergeSort (dataLe false enc)) → Q (.ref p) (upd H p (.lst outs))
theorem paired_len {α β : Type} {R : α → β → Prop} : ∀ {l : List α} {m : List β}, Paired R l m → l.length = m.length
  | _, _, .nil => rfl
  | _, _, .cons _ t => congrArg Nat.succ (paired_len t)
theorem sort_back {X : Cx} {pins : List (Addr × Obj)} {σ : L2.St} {H : Hp} {s s' : Shared} {p : Addr} {out : List Value} {c : Nat} {vs : List V} {Q : VK} (I : Inv X pins σ H s) (k : ∀ b o, s.heap.get? b = some o → s'.heap.get? b = some o) (g : s'.gens = s.gens) (o : s'.os = s.os)
    (hp : s.heap.objs.size ≤ p) (e : s'.heap.get? p = some (seqObj "list" out.toArray c)) (r : Vals vs out) (hl : vs.length ≤ sizeLine) (q : H p = none → Q (.ref p) (upd H p (.lst vs))) : EP X pins σ Q (.ref p) s' := by
  have hn : H p = none := I.hok.fresh hp
  have J : Inv X pins σ (upd H p (.lst vs)) { s with heap := s'.heap, gens := s'.gens, drawn := s'.drawn, toks := s'.toks } :=
    I.call (ch := []) (Un.laid k hp hn) (I.hok.laid k hp ⟨hl, out, c, r, e⟩) (by rw [g]; exact I.bare) (fun _ z => nomatch z)
  have e : s' = { s with heap := s'.heap, gens := s'.gens, drawn := s'.drawn, toks := s'.toks } := by
    cases s'
    cases s
    cases o
    rfl
  rw [e]
  exact ⟨.ref p, _, J, rfl, q hn⟩
theorem units_small {A : Around} {n : Nat} (h : A.units + 64 < cLine) (hn : n ≤ 60) : A.units + 2 + n < cLine := by omega
theorem call_srt {X : Cx} {β : Type} (enc : β → PyData) (Rv : Hp → V → β → Prop) (hu : X.A.units + 64 < cLine) : CallR X (.builtin "sorted") (rSrt X.K enc Rv) := by
  intro pins s σ H xs us Q I r h
  obtain ⟨a, vs, bs, rfl, hs, hp, hd, ok, q⟩ := h
  rw [Vals.ref1 r]
  have key : ∃ (its : List Value) (T : String) (o : Obj) (n : Nat), Vals vs its ∧ (T = "list" ∨ T = "tuple") ∧ s.heap.get? a = some o ∧ o.cls = .type T ∧ o.data = .seq its.toArray n := by
    rcases hs with hs | hs
    · obtain ⟨its, rv, hl, _⟩ := I.list hs
      obtain ⟨o, e, c, n, d⟩ := hl.isList
      exact ⟨its, "list", o, n, rv, .inl rfl, e, c, d⟩
    · obtain ⟨its, rv, hl, _⟩ := I.tuple hs
      obtain ⟨o, e, c, n, d⟩ := hl
      exact ⟨its, "tuple", o, n, rv, .inr rfl, e, c, d⟩
  obtain ⟨its, T, o, n, rv, hT, e, c, d⟩ := key
  have hlen : its.length = bs.length := by rw [← rv.length, paired_len hp]
  obtain ⟨e1, e2⟩ := each_of (K := X.K) I hd rv hp
  have hz := sizeLine_eq
  have h1000 : bs.length ≤ sizeLine := by have := ok.le; omega
  refine sorted_gen (Bs := fun l => l = bs) (enc := enc) (R := fun u b => ∃ x, RelV x u ∧ Rv H x b) (fun Q' E' f => ?_) (fun l hl => by rw [hl]; exact ok.al) (fun l hl => by rw [hl]; exact ok.so) (fun l hl => by rw [hl]; exact h1000)
    (fun l hl b hb => units_small hu (ok.dp b (by rw [← hl]; exact hb))) fun s' p out c' l hl k g os hp' hget hout => ?_
  · refine collect_grown a hT e c d (by rw [List.size_toArray, hlen]; exact h1000) fun h' kp hsz => ?_
    exact f { s with heap := h' } its bs rfl kp hsz rfl rfl e1 (each_mono (fun u b ⟨as, z⟩ => ⟨as, PyProof.Rows.Reads.keeps kp z⟩) e2)
  · subst hl
    obtain ⟨ws, w1, w2⟩ := each_vals hout
    refine sort_back I k g os hp' hget w1 ?_ fun hn => q p ws hn w2
    rw [paired_len w2, List.length_mergeSort]
    exact h1000
/-! ### sets of texts that are all different -/
open PySem.Froz
/-- the texts l stand in the set at a, in some order; it can be walked -/
def TxR (P : Program) (w : World) (h : Heap) (a : Addr) (l : List Str) : Prop := ∃ D : SD, h.get? a = some (sObj "set" D) ∧ TxOk P w D l ∧ Ris D.2.2.place.toList ∧ (w.params.followText "set-order" = true ∨ D.2.2.led = true)
theorem TxR.at {P : Program} {w : World} {h h' : Heap} {a : Addr} {l : List Str} (R : TxR P w h a l) (k : ∀ o, h.get? a = some o → h'.get? a = some o) : TxR P w h' a l := by
  obtain ⟨D, e, r⟩ := R
  exact ⟨D, k _ e, r⟩
theorem tail_ris {ep : Nat} {es : Array (Int × Value)} {t : SetTable} {d : Bool} (r : Ris t.place.toList) : Ris (tailTx ep es t d).2.2.place.toList := by
  unfold tailTx
  split
  · exact relayAll_ris t es _
  · exact r
theorem tail_led {ep : Nat} {es : Array (Int × Value)} {t : SetTable} {d : Bool} : (tailTx ep es t d).2.2.led = t.led := by
  unfold tailTx
  split
  · exact relayAll_led t es _
  · rfl
theorem add_ris {h : Int} {v : Value} {D : SD} (r : Ris D.2.2.place.toList) : Ris (addTx h v D).2.2.place.toList := by
  unfold addTx
  refine tail_ris ?_
  have q := layNew_ris D.2.2 D.1 h v r
  split
  · exact q
  · exact q
theorem add_led {h : Int} {v : Value} {D : SD} : (addTx h v D).2.2.led = D.2.2.led := by
  unfold addTx
  rw [tail_led]
  have q := layNew_led D.2.2 D.1 h v
  split
  · exact q
  · exact q
theorem txR_fresh {P : Program} {w : World} {h : Heap} {a : Addr} (e : h.get? a = some { cls := .type "set", dict := none, data := .set #[] 0 (.fresh 0 0 (!w.params.followText "set-order")) }) : TxR P w h a [] :=
  ⟨(#[], 0, .fresh 0 0 (!w.params.followText "set-order")), e, TxOk.nil (by rfl), List.Pairwise.nil, by
    show _ ∨ (!w.params.followText "set-order") = true
    cases w.params.followText "set-order"
    · exact .inr rfl
    · exact .inl rfl⟩
section
variable {P : Program} {w : World} {A : Around} {E : Value → Shared → Prop} {s : Shared}
theorem set_update_txs {I : Addr} {fp wr : List Addr} {G : Array GenState → Array GenState → Prop} {n : Nat} {Pv : Nat → Value → Prop} {St : Nat → Shared → Prop} {R : Result → Shared → Prop}
    (W : WalksS P w A.in1 I fp wr G n Pv St) (S : Addr) (hSf : S ∉ fp) (xs : List Str) (hd : xs.Nodup) (hn : n = xs.length) (hb : xs.length + 1 < scanBound) (hval : ∀ i v, Pv i v → ∃ k t, xs[i]? = some k ∧ v = .str k t) :
    ∀ (k i : Nat) (s : Shared), n - i = k → i ≤ n → St i s → TxR P w s.heap S (xs.take i).reverse →
      (∀ s', Moved (S :: wr) G s s' → TxR P w s'.heap S xs.reverse → R (.ok (.ret .none)) s') →
      codeAny (model P w) A (.builtin "set.update.loop" ⟨[.ref S, .ref I], []⟩) R s := by
  have hSw : S ∉ wr := fun h => hSf (W.sub _ h)
  have hsub : ∀ b ∈ wr, b ∈ S :: wr := fun b hb => List.mem_cons_of_mem _ hb
  intro k
  induction k with
  | zero =>
    intro i s hk' hi hst hS hR
    have hin : i = n := by omega
    subst hin
    refine codeAny_builtin F.entry_set_update_loop ?_
    rw [Around.under_plainId F.plain_set_update_loop _]
    show wpAny _ A.in1 (pyNext (.ref I) >>= _) _ _ s
    refine wpAny_bind (W.done s _ _ hst fun s' hm => ?_)
    show wpAny _ A.in1 (ret Value.none) _ _ s'
    have e : xs.take i = xs := List.take_of_length_le (by omega)
    rw [e] at hS
    exact wpAny_pure (hR s' (hm.mono hsub) (hS.at fun o e => hm.heap S o hSw e))
  | succ k ih =>
    intro i s hk' hi hst hS hR
    have hlt : i < n := by omega
    refine codeAny_builtin F.entry_set_update_loop ?_
    rw [Around.under_plainId F.plain_set_update_loop _]
    show wpAny _ A.in1 (pyNext (.ref I) >>= _) _ _ s
    refine wpAny_bind (W.item i s _ _ hlt hst fun v s' hP hst' hm => ?_)
    obtain ⟨z, t, hz, rfl⟩ := hval i v hP
    obtain ⟨D, ho, F1, r1, l1⟩ := hS.at fun o e => hm.heap S o hSw e
    have hnew : z ∉ (xs.take i).reverse := fun hm => by
      rw [List.mem_reverse] at hm
      obtain ⟨j, hj, e⟩ := List.getElem_of_mem hm
      have hj' : j < i := by rw [List.length_take] at hj; omega
      have e1 : xs[j]? = some z := by
        rw [List.getElem_take] at e
        rw [← e]
        exact List.getElem?_eq_getElem (by omega)
      obtain ⟨a1, a2⟩ := List.getElem?_eq_some_iff.mp e1
      obtain ⟨b1, b2⟩ := List.getElem?_eq_some_iff.mp hz
      have := (List.getElem_inj hd).mp (a2.trans b2.symm)
      omega
    have hlen : (xs.take i).reverse.length = i := by rw [List.length_reverse, List.length_take]; omega
    show wpAny _ A.in1 (holding [Value.str z t] (setAdd S (.str z t)) >>= _) _ _ s'
    refine wpAny_bind (wpAny_holding ?_)
    unfold setAdd
    refine wpAny_holding ?_
    refine wpAny_bind ((strKind P w).pyHash (k := z) (is_str z t) ?_)
    refine add_x (s := { s' with toks := s'.toks + 1 }) ho F1 hnew (by rw [hlen]; omega) ?_
    have ho2 : (s'.heap.update S (fun _ => sObj "set" (addTx (hashStr w z) (.str z t) D))).get? S = some (sObj "set" (addTx (hashStr w z) (.str z t) D)) := get_upd _ ho rfl
    have hS3 : TxR P w (s'.heap.update S (fun _ => sObj "set" (addTx (hashStr w z) (.str z t) D))) S (xs.take (i + 1)).reverse := by
      rw [List.take_add_one, hz]
      show TxR P w _ S (xs.take i ++ [z]).reverse
      rw [List.reverse_append]
      exact ⟨_, ho2, add_ok t F1, add_ris r1, l1.imp id fun q => by rw [add_led]; exact q⟩
    have oth : ∀ b, b ≠ S → (s'.heap.update S (fun _ => sObj "set" (addTx (hashStr w z) (.str z t) D))).get? b = s'.heap.get? b := fun b hb => Heap.get?_update_other _ _ (Ne.symm hb)
    refine wpAny_pure ⟨plainId_quiet F.plain_set_update_loop _, ih (i + 1) _ (by omega) hlt (W.frame _ s' _ _ hst' (Nat.le_succ _) fun b hb o e => ?_) hS3 fun s'' hm'' hS'' => ?_⟩
    · rw [oth b (fun h : b = S => hSf (by rw [← h]; exact hb))]; exact e
    · refine hR s'' (Moved.trans W.gtrans ((hm.mono hsub).then_heap (Nat.le_succ _) fun b o hb e => ?_) hm'') hS''
      rw [oth b (fun h : b = S => hb (by rw [h]; exact List.mem_cons_self))]; exact e
set_option maxHeartbeats 3200000 in
/-- set(l), l a list of texts that are all different -/
theorem call_set_txs {l : Addr} {items : Array Value} (xs : List Str) (hd : xs.Nodup) {Q : Value → Shared → Prop} (hh : A.handled = none) (hl : s.heap.IsList l items) (hit : ∀ (i : Nat) (v : Value), items[i]? = some v → ∃ k t, xs[i]? = some k ∧ v = Value.str k t) (hisz : items.size = xs.length) (hb : xs.length + 1 < scanBound)
    (h : ∀ (h' : Heap) (tk : Nat), TxR P w h' s.heap.objs.size xs.reverse → (∀ b o, s.heap.get? b = some o → h'.get? b = some o) → Q (.ref s.heap.objs.size) { s with heap := h', toks := tk }) :
    wpAny (model P w) A (call (.type "set") [.ref l]) Q E s := by
  obtain ⟨c, tl, hmro⟩ := F.called_set.mro
  have hmade := F.called_set.made
  have hsub := F.called_set.sub
  refine wpAny_call (codeAny_of_tree ?_)
  show wpAny _ _ (callAny (.type "set") _) _ _ _
  refine wpAny_pure ⟨Code.quiet_builtin _ (by decide +kernel), codeAny_builtin F.entry_type_call ?_⟩
  rw [Around.under_plain (weight_type_call_type "set" [.ref l] []) rfl]
  have h1 := F.called_set.notType
  have h2 := F.called_set.canCreate
  have hct := F.typeCall_set_1 (.ref l)
  repeat (any_goals (first | assumption | wp_step))
  refine codeAny_mono (code_set_led1 (.ref l) (E := E) (Q₁ := fun obj s₁ => obj = .ref s.heap.objs.size ∧ s₁ = { s with heap := s.heap.push { cls := .type "set", dict := none, data := .set #[] 0 (.fresh 0 0 (!w.params.followText "set-order")) } }) ⟨rfl, rfl⟩) fun r s₁ hr => ?_
  cases r with
  | error e => exact hr
  | ok fl =>
    cases fl with
    | ret obj =>
      obtain ⟨rfl, rfl⟩ := hr
      have hS : (s.heap.push { cls := .type "set", dict := none, data := .set #[] 0 (.fresh 0 0 (!w.params.followText "set-order")) }).get? s.heap.objs.size = some { cls := .type "set", dict := none, data := .set #[] 0 (.fresh 0 0 (!w.params.followText "set-order")) } := Heap.get?_push_size _ rfl
      have hT : Shared.TypeIs { s with heap := s.heap.push { cls := .type "set", dict := none, data := .set #[] 0 (.fresh 0 0 (!w.params.followText "set-order")) } } (.ref s.heap.objs.size) "set" := ⟨_, hS, rfl⟩
      have hli := F.called_set.init.lookup
      have hbi := F.called_set.init.bind (.ref s.heap.objs.size)
      repeat (any_goals (first | assumption | wp_step))
      refine codeAny_mono (codeAny_call_builtin (R := wants (fun r s₂ => r = .none ∧ ∃ h' tk, s₂ = { s with heap := h', toks := tk } ∧ TxR P w h' s.heap.objs.size xs.reverse ∧ (∀ b o, s.heap.get? b = some o → h'.get? b = some o)) E) F.called_set.init.plain F.entry_set_init (check_set_init_1 hT ?_)) fun r₂ s₂ hr₂ => ?_
      · obtain ⟨ol, hol, hcl, nl, hdl⟩ := hl
        obtain ⟨ocls, odict, odata, oslots⟩ := ol
        simp only at hcl hdl
        subst hcl; subst hdl
        have hol' : (s.heap.push { cls := .type "set", dict := none, data := .set #[] 0 (.fresh 0 0 (!w.params.followText "set-order")) }).get? l = some { cls := .type "list", dict := odict, data := .seq items nl, slots := oslots } := Heap.get?_push_of_some _ hol
        have hsls := F.sub_list_set
        have hslf := F.sub_list_frozenset
        have hne : (Value.type "list" == Value.type "dict") = false := by decide
        have hl1 : (s.heap.push { cls := .type "set", dict := none, data := .set #[] 0 (.fresh 0 0 (!w.params.followText "set-order")) }).IsList l items := ⟨_, hol', rfl, nl, rfl⟩
        unfold Builtin.«set.__init__» noKeywords Builtin.Frozenset.updateFrom
        generalize hPI : pyIter = PI
        wp_walk
        subst hPI
        refine wpAny_pyIter_list hl1 ?_
        refine wpAny_bind (wpAny_runValue ?_)
        have hlS : l < s.heap.objs.size := Heap.lt_size hol
        have hh3 : A.in1.in1.in1.handled = none := by simp [hh]
        have hneI : l ≠ (s.heap.push { cls := .type "set", dict := none, data := .set #[] 0 (.fresh 0 0 (!w.params.followText "set-order")) }).objs.size := by
          rw [Heap.size_push]; exact Nat.ne_of_lt (Nat.lt_succ_of_lt hlS)
        have hSf : s.heap.objs.size ∉ [(s.heap.push { cls := .type "set", dict := none, data := .set #[] 0 (.fresh 0 0 (!w.params.followText "set-order")) }).objs.size, l] := by
          rw [Heap.size_push]; simp only [List.mem_cons, List.mem_singleton, List.not_mem_nil, or_false, not_or]
          exact ⟨Nat.ne_of_lt (Nat.lt_succ_self _), Nat.ne_of_gt hlS⟩
        refine set_update_txs ((Walks.list hh3 _ l hneI items).toS) s.heap.objs.size hSf xs hd hisz hb hit (items.size - 0) 0 _ (by omega) (Nat.zero_le _) ⟨⟨_, Heap.get?_push_size _ rfl, rfl, rfl⟩, (hl1.push _)⟩ (txR_fresh (Heap.get?_push_of_some _ hS)) fun s' hm hS' => ?_
        obtain ⟨h', g2, d', tk', os'⟩ := s'
        have eg : g2 = s.gens := hm.gens
        have ed : d' = s.drawn := hm.drawn
        have eo : os' = s.os := hm.os
        subst eg; subst ed; subst eo
        show wpAny _ _ _ _ _ _
        refine wpAny_pure ?_
        show wpAny _ _ (ret Value.none) _ _ _
        refine wpAny_pure ⟨rfl, h', tk', rfl, hS', fun b o e => ?_⟩
        have hb0 : b < s.heap.objs.size := Heap.lt_size e
        have hb1 : b ≠ s.heap.objs.size := Nat.ne_of_lt hb0
        have hb2 : b ≠ (s.heap.push { cls := .type "set", dict := none, data := .set #[] 0 (.fresh 0 0 (!w.params.followText "set-order")) }).objs.size := by
          rw [Heap.size_push]; exact Nat.ne_of_lt (Nat.lt_succ_of_lt hb0)
        exact hm.heap b o (by simp only [List.mem_cons, List.mem_singleton, List.not_mem_nil, or_false, not_or]; exact ⟨hb1, hb2⟩) (Heap.get?_push_of_some _ (Heap.get?_push_of_some _ e))
      · cases r₂ with
        | error e => exact hr₂
        | ok fl₂ =>
          cases fl₂ with
          | ret r =>
            obtain ⟨rfl, h', tk, rfl, hS', hk'⟩ := hr₂
            repeat (any_goals (first | assumption | wp_step))
            exact h _ _ hS' hk'
          | _ => exact hr₂.elim
    | _ => exact hr.elim
end
/-! ### the rules -/
def TxO (P : Program) (w : World) (a : Addr) (l : List Str) : HO := .ext fun h => TxR P w h a l
def rSetTx (P : Program) (w : World) (K : PySem.W.Frag) : List V → Hp → VK → Prop := fun vs H Q => ∃ (a : Addr) (xs : List Str), vs = [.ref a] ∧ SqL K H a (xs.map V.str) ∧ xs.Nodup ∧ xs.length ≤ 1000 ∧ ∀ p, H p = none → Q (.ref p) (upd H p (TxO P w p xs.reverse))
theorem str_items : ∀ {us : List Value} {xs : List Str}, Vals (xs.map V.str) us → ∀ (i : Nat) (v : Value), us[i]? = some v → ∃ k t, xs[i]? = some k ∧ v = Value.str k t
  | _, [], .nil, i, v, h => by simp at h
  | _, x :: xs, .cons r t, 0, v, h => by
    obtain ⟨tk, e⟩ := (show ∃ t, _ = Value.str x t from r)
    refine ⟨x, tk, rfl, ?_⟩
    rw [← e]
    exact (Option.some.inj h).symm
  | _, x :: xs, .cons r t, i + 1, v, h => by
    obtain ⟨k, tk, e1, e2⟩ := str_items t i v (by simpa using h)
    exact ⟨k, tk, by simpa using e1, e2⟩
theorem call_setTx {X : Cx} (hc : X.calm = true) : CallR X (.type "set") (rSetTx X.prog X.w X.K) := by
  intro pins s σ H vs us Q I r h
  obtain ⟨a, xs, rfl, hs, hd, hn, q⟩ := h
  rw [Vals.ref1 r]
  obtain ⟨its, rv, hl, _⟩ := I.list hs
  have hlen := rv.length
  rw [List.length_map] at hlen
  refine call_set_txs xs hd (I.ok.hd hc) hl.isList (fun i v e => str_items rv i v (by simpa using e)) (by simp [hlen]) (by show xs.length + 1 < 4096; omega) fun h' tk R k => ?_
  have hf : H s.heap.objs.size = none := I.hok.fresh (Nat.le_refl _)
  refine ⟨.ref s.heap.objs.size, upd H s.heap.objs.size (TxO X.prog X.w s.heap.objs.size xs.reverse), I.laid (t' := tk) k (Nat.le_refl _) ?_, rfl, q _ hf⟩
  obtain ⟨D, e, z⟩ := R
  exact ⟨⟨D, e, z⟩, ⟨_, e⟩, fun h1 h2 R st => R.at st⟩
theorem perm_nodup : ∀ {l m : List Str}, l.Nodup → (∀ k ∈ l, k ∈ m) → m.length = l.length → m.Perm l
  | [], m, _, _, h => by rw [List.length_eq_zero_iff.mp h]
  | x :: l, m, hd, hs, h => by
    obtain ⟨h1, h2⟩ := List.nodup_cons.mp hd
    obtain ⟨m1, m2, rfl⟩ := List.append_of_mem (hs x List.mem_cons_self)
    have p : (m1 ++ x :: m2).Perm (x :: (m1 ++ m2)) := List.perm_middle
    refine p.trans ((perm_nodup h2 (fun k hk => ?_) ?_).cons x)
    · have z := p.mem_iff.mp (hs k (List.mem_cons_of_mem _ hk))
      rcases List.mem_cons.mp z with e | e
      · exact absurd (e ▸ hk) h1
      · exact e
    · have := p.length_eq
      rw [List.length_cons] at this h
      omega
/-- the texts of the elements -/
def txOf (v : Value) : Str := match v with
  | .str x _ => x
  | _ => Str.empty
theorem srt_texts {l : List Str} (h : l.length ≤ 1000) : SrtOk PyData.str l :=
  ⟨AllAlike.of fun b b' => by rfl, Sortable.others fun b => ⟨fun z => (nomatch z), fun xs z => (nomatch z)⟩, h, fun b _ => by simp [PyData.depth]⟩
def rSortTx (P : Program) (w : World) : List V → Hp → VK → Prop := fun vs H Q => ∃ (a : Addr) (l : List Str), vs = [.ref a] ∧ H a = some (TxO P w a l) ∧ l.Nodup ∧ l.length ≤ 1000 ∧ ∀ p, H p = none → Q (.ref p) (upd H p (.lst ((sortS l).map V.str)))
theorem each_txs {h : Heap} : ∀ {vs : List Value}, (∀ v ∈ vs, ∃ x t, v = Value.str x t) → EachIs (fun u b => ∃ x : V, RelV x u ∧ x = V.str b) vs (vs.map txOf) ∧ EachIs (fun u b => ∃ as, Reads h u (PyData.str b) as) vs (vs.map txOf)
  | [], _ => ⟨.nil, .nil⟩
  | v :: vs, hv => by
    obtain ⟨x, t, e⟩ := hv v List.mem_cons_self
    obtain ⟨a, b⟩ := each_txs (h := h) (vs := vs) fun u hu => hv u (List.mem_cons_of_mem _ hu)
    subst e
    exact ⟨.cons ⟨.str x, ⟨t, rfl⟩, rfl⟩ a, .cons ⟨_, .str x t⟩ b⟩
theorem strs_back : ∀ {vs : List V} {l : List Str}, Paired (fun x b => x = V.str b) vs l → vs = l.map V.str
  | _, _, .nil => rfl
  | _, _, .cons h t => by rw [h, strs_back t]; rfl
theorem call_sortTx {X : Cx} (hc : X.calm = true) (hu : X.A.units + 64 < cLine) : CallR X (.builtin "sorted") (rSortTx X.prog X.w) := by
  intro pins s σ H vs us Q I r h
  obtain ⟨a, l, rfl, ha, hd, hn, q⟩ := h
  rw [Vals.ref1 r]
  obtain ⟨⟨D, e, F1, r1, l1⟩, _, _⟩ := I.hok a _ ha
  have hz := sizeLine_eq
  have hsz : D.1.size = l.length := F1.sz
  have ok : ∀ bs : List Str, bs.Perm l → SrtOk PyData.str bs := fun bs p => srt_texts (by rw [p.length_eq]; exact hn)
  refine sorted_gen (Bs := fun bs => bs.Perm l) (enc := PyData.str) (R := fun u b => ∃ x : V, RelV x u ∧ x = V.str b) (fun Q' E' f => ?_) (fun bs p => (ok bs p).al) (fun bs p => (ok bs p).so) (fun bs p => by have := (ok bs p).le; omega)
    (fun bs p b hb => units_small hu ((ok bs p).dp b hb)) fun s' p out c' bs hp k g os hp' hget hout => ?_
  · refine collect_set (A := X.A.in1) (I.ok.hd hc) ⟨_, e, rfl, rfl⟩ F1.fit (by rw [hsz]; show l.length < 4096; omega) r1 l1 fun s1 vs1 k1 hz1 g1 o1 pm => ?_
    have hv : ∀ v ∈ vs1, ∃ x t, v = Value.str x t := fun v hv => by
      obtain ⟨el, he, z⟩ := List.mem_map.mp (pm.mem_iff.mp hv)
      obtain ⟨⟨k, hk, _⟩, _⟩ := F1.el el he
      obtain ⟨t, e2⟩ := Value.isStrOf_shape (x := k) (v := el.2) hk
      exact ⟨k, t, by rw [← z]; exact e2⟩
    obtain ⟨e1, e2⟩ := each_txs (h := s1.heap) hv
    refine f s1 vs1 (vs1.map txOf) (perm_nodup hd (fun k hk => ?_) ?_) k1 hz1 g1 o1 e1 e2
    · obtain ⟨el, he, z⟩ := (F1.mem k).mp hk
      obtain ⟨t, e3⟩ := Value.isStrOf_shape (x := k) (v := el.2) z
      refine List.mem_map.mpr ⟨el.2, pm.mem_iff.mpr (List.mem_map.mpr ⟨el, he, rfl⟩), ?_⟩
      rw [e3]
      rfl
    · rw [List.length_map, pm.length_eq, List.length_map, Array.length_toList, hsz]
  · obtain ⟨ws, w1, w2⟩ := each_vals hout
    have e2 : ws = (sortS l).map V.str := by
      rw [strs_back w2, merge_sortS, sortS_of hp]
    subst e2
    refine sort_back I k g os hp' hget w1 ?_ fun hn' => q p hn'
    rw [List.length_map, sortS_len]
    omega
/-- sorted(a list or tuple of texts) -/
def rSortS (K : PySem.W.Frag) : List V → Hp → VK → Prop := fun vs H Q => ∃ (a : Addr) (l : List Str), vs = [.ref a] ∧ SqA K H a (l.map V.str) ∧ l.length ≤ 1000 ∧ ∀ p, H p = none → Q (.ref p) (upd H p (.lst ((sortS l).map V.str)))
theorem paired_strs : ∀ l : List Str, Paired (fun x b => x = V.str b) (l.map V.str) l
  | [] => .nil
  | x :: l => .cons rfl (paired_strs l)
theorem call_sortS {X : Cx} (hu : X.A.units + 64 < cLine) : CallR X (.builtin "sorted") (rSortS X.K) := by
  intro pins s σ H vs us Q I r h
  obtain ⟨a, l, rfl, ha, hn, q⟩ := h
  refine call_srt PyData.str (fun _ x b => x = V.str b) hu pins s σ H _ us Q I r ⟨a, _, l, rfl, ha, paired_strs l, (fun x b e => by rw [e]; exact .str b), srt_texts hn, fun p outs np ho => ?_⟩
  rw [strs_back ho, merge_sortS]
  exact q p np
end K90
end

section
set_option Elab.async false
set_option linter.all false
set_option maxRecDepth 100000
set_option maxHeartbeats 4000000
/-! Locked -/
namespace K90
open PySem PySem.Spec PyProof.Rows L2
theorem fm_map {α β : Type} (xs : List α) (g : α → β) : (List.range xs.length).filterMap (fun i => (xs[i]?).map g) = xs.map g := by
  have z := fm_get xs fun x => some (g x)
  rw [← List.filterMap_eq_map]
  refine Eq.trans ?_ z
  congr 1
  funext i
  cases xs[i]? <;> rfl
theorem fm_filt {α β : Type} (xs : List α) (p : α → Bool) (g : α → β) : (List.range xs.length).filterMap (fun i => (xs[i]?).bind fun x => if p x = true then some (g x) else none) = (xs.filter p).map g := by
  rw [fm_get xs fun x => if p x = true then some (g x) else none]
  induction xs with
  | nil => rfl
  | cons x xs ih =>
    cases h : p x <;> simp [List.filterMap_cons, List.filter_cons, h, ih]
/-! ### lists of what tuples tell -/
structure StR {β : Type} (R : Hp → V → β → Prop) : Prop where
  keep : ∀ {H H' : Hp} {v : V} {b : β}, TKeep H H' → R H v b → R H' v b
theorem StR.all {β : Type} {R : Hp → V → β → Prop} (st : StR R) {H H' : Hp} (k : TKeep H H') : ∀ {vs : List V} {bs : List β}, Paired (R H) vs bs → Paired (R H') vs bs
  | _, _, .nil => .nil
  | _, _, .cons h t => .cons (st.keep k h) (st.all k t)
theorem stNd : StR NdAt := ⟨fun k h => h.keep k⟩
def AccG {β : Type} (R : Hp → V → β → Prop) (H1 : Hp) (D : Addr) (f : Nat → Option β) (i : Nat) (H : Hp) : Prop := Same H1 H ∧ H1 D = none ∧ ∃ acc, H D = some (.lst acc) ∧ Paired (R H) acc ((List.range i).filterMap f)
theorem tk_list {H : Hp} {D : Addr} {xs : List V} {o : HO} (e : H D = some (.lst xs)) : TKeep H (upd H D o) := TKeep.upd fun ys z => by rw [e] at z; cases z
theorem paired_app {α β : Type} {R : α → β → Prop} : ∀ {l1 l2 : List α} {m1 m2 : List β}, Paired R l1 m1 → Paired R l2 m2 → Paired R (l1 ++ l2) (m1 ++ m2)
  | _, _, _, _, .nil, s => s
  | _, _, _, _, .cons h t, s => .cons h (paired_app t s)
theorem paired_get {α β : Type} {R : α → β → Prop} : ∀ {l : List α} {m : List β} {i : Nat} {a : α}, Paired R l m → l[i]? = some a → ∃ b, m[i]? = some b ∧ R a b
  | _, _, _, _, .nil, e => by simp at e
  | _, _, 0, a, .cons h r, e => by
    have e' : _ = a := Option.some.inj e
    subst e'
    exact ⟨_, rfl, h⟩
  | _, _, i + 1, a, .cons h r, e => by
    obtain ⟨d, h1, h2⟩ := paired_get (i := i) (a := a) r (by simpa using e)
    exact ⟨d, by simpa using h1, h2⟩
theorem paired_getD {α β : Type} {R : α → β → Prop} : ∀ {l : List α} {m : List β} {i : Nat} {b : β}, Paired R l m → m[i]? = some b → ∃ a, l[i]? = some a ∧ R a b
  | _, _, _, _, .nil, e => by simp at e
  | _, _, 0, a, .cons h r, e => by
    have e' : _ = a := Option.some.inj e
    subst e'
    exact ⟨_, rfl, h⟩
  | _, _, i + 1, a, .cons h r, e => by
    obtain ⟨d, h1, h2⟩ := paired_getD (i := i) (b := a) r (by simpa using e)
    exact ⟨d, by simpa using h1, h2⟩
section
variable {β : Type} {R : Hp → V → β → Prop} {H1 H H' : Hp} {D : Addr} {f : Nat → Option β} {i : Nat}
theorem AccG.start (n : H1 D = none) : AccG R H1 D f 0 (upd H1 D (.lst [])) := ⟨same_new n, n, [], upd_same, .nil⟩
theorem AccG.same (st : StR R) (a : AccG R H1 D f i H) (s : Same H H') : AccG R H1 D f i H' := by
  obtain ⟨s1, n, acc, e, r⟩ := a
  exact ⟨s1.trans s, n, acc, s _ _ e, st.all (.of s) r⟩
theorem AccG.skip (a : AccG R H1 D f i H) (h : f i = none) : AccG R H1 D f (i + 1) H := by
  unfold AccG
  rw [fm_succ, h]
  simpa [AccG] using a
theorem AccG.push {d : β} {y : V} (st : StR R) (a : AccG R H1 D f i H) (hf : f i = some d) (h : R H y d) (z : i < sizeLine) :
    ∃ acc, H D = some (.lst acc) ∧ acc.length < sizeLine ∧ AccG R H1 D f (i + 1) (upd H D (.lst (acc ++ [y]))) := by
  obtain ⟨s1, n, acc, e, r⟩ := a
  have k := tk_list (o := .lst (acc ++ [y])) e
  refine ⟨acc, e, by rw [paired_len r]; exact Nat.lt_of_le_of_lt (fm_len f i) z, fun b u q => by rw [upd_ne (ne_of_none q n)]; exact s1 b u q, n, acc ++ [y], upd_same, ?_⟩
  rw [fm_succ, hf]
  exact paired_app (st.all k r) (.cons (st.keep k h) .nil)
end
theorem comp_walkG {β : Type} {R : Hp → V → β → Prop} {J : It} {n : Nat} {G : Hp → Prop} {Y : Nat → Hp → V → Hp → Prop} (w : Walk J n G Y) (f : Nat → Option β) {g : TG} {tt : TT} {te : TE} {vs : List Nat} {σ : L2.St} {H1 : Hp} {Q : VK} (hG : ∀ H, Same H1 H → G H)
    (hs : ∀ D i x H H', H1 D = none → i < n → AccG R H1 D f i H → Y i H x H' → LcTurn g tt te vs σ D (AccG R H1 D f (i + 1)) x H') (hd : ∀ D H, AccG R H1 D f n H → Q (.ref D) H) : LcR g tt te vs σ Q J H1 :=
  fun D nD => lc_it w (AccG R H1 D f) (AccG.start nD) (fun i H _ a => hG H a.1) (fun i x H H' hi a y => hs D i x H H' nD hi a y) (hd D)
theorem comp_seqG {K : PySem.W.Frag} {β : Type} {R : Hp → V → β → Prop} {xs : List V} {a : Addr} {H1 : Hp} (h : SqA K H1 a xs) (f : Nat → Option β) {g : TG} {tt : TT} {te : TE} {vs : List Nat} {σ : L2.St} {Q : VK}
    (hs : ∀ D i x H, H1 D = none → xs[i]? = some x → i < xs.length → AccG R H1 D f i H → LcTurn g tt te vs σ D (AccG R H1 D f (i + 1)) x H) (hd : ∀ D H, AccG R H1 D f xs.length H → Q (.ref D) H) :
    ((∃ xs, SqL K H1 a xs) ∧ LcR g tt te vs σ Q (Itl K a) H1) ∨ ((∃ xs, SqT K H1 a xs) ∧ LcR g tt te vs σ Q (Itt K a) H1) := by
  rcases h with h | h
  · exact .inl ⟨⟨xs, h⟩, comp_walkG walk_list f (fun H s => s.seq h) (fun D i x H H' nD hi a y => by
      obtain ⟨e, y⟩ := y
      subst e
      exact hs D i x _ nD y hi a) hd⟩
  · exact .inr ⟨⟨xs, h⟩, comp_walkG walk_tup f (fun H s => same_tup s h) (fun D i x H H' nD hi a y => by
      obtain ⟨e, y⟩ := y
      subst e
      exact hs D i x _ nD y hi a) hd⟩
/-! ### rules that name K (within a comprehension) -/
theorem ixT (K : PySem.W.Frag) {X : Cx} (e : X.K = K) : IxR X (rIxT K) := e ▸ ix_tup
theorem ixL (K : PySem.W.Frag) {X : Cx} (e : X.K = K) : IxR X (rIxL K) := e ▸ ix_list
theorem peSl (K : PySem.W.Frag) {X : Cx} {e : Expr} {f : Str} {pos : Pos} {ta : TE} (ek : X.K = K) (he : PE X e ta) (hb : attributeBase e f X.env (eval e X.env) = eval e X.env := by rfl) : PE X (.Attribute e f pos) (SlX.tSl K ta f) := ek ▸ SlX.pe_sl he hb
theorem opIn (K : PySem.W.Frag) {X : Cx} (e : X.K = K) : OpR X (compareOp .In) (rIn K false) := e ▸ op_in_seq
theorem opNotIn (K : PySem.W.Frag) {X : Cx} (e : X.K = K) : OpR X (compareOp .NotIn) (rIn K true) := e ▸ op_notIn_seq
theorem pgTup (K : PySem.W.Frag) {X : Cx} {es : List Expr} {k : Nat} {pos : Pos} {t : TGs} {n : Nat} (e : X.K = K) (hc : X.calm = true) (h : PGs X es t) (hn : (assignEach es X.env).length = n := by rfl) (hst : (assignEach es X.env).findIdx? (·.1) = none := by rfl) : PG X (.Tuple es k pos) (gTup K n t) := e ▸ pg_tup hc h hn hst
/-! ### Locked in the heap -/
abbrev CL (K : PySem.W.Frag) : Addr := He.ga K "Locked"
def LockAt (K : PySem.W.Frag) (H : Hp) (a : Addr) (t : T) (ns : List Nat) : Prop := ∃ dx ln ta, SlX.Slt H a (CL K) dx [some (.ref ln), some (.ref ta)] ∧ TreeAt K H ta t ∧ H ln = some (.lst (ns.map fun (j : Nat) => V.int (j : Int)))
theorem LockAt.same {K : PySem.W.Frag} {H H' : Hp} {a : Addr} {t : T} {ns : List Nat} (s : Same H H') (h : LockAt K H a t ns) : LockAt K H' a t ns := by
  obtain ⟨dx, ln, ta, h1, h2, h3⟩ := h
  exact ⟨dx, ln, ta, slt_same s h1, h2.same s, s _ _ h3⟩
/-- what tells a tree; what tells a list of texts -/
def TreeD (K : PySem.W.Frag) (H : Hp) (v : V) (t : T) : Prop := ∃ d, Dp K H v d ∧ smD 20 d = true ∧ tupN 20 d = t.data ∧ okT t
def OutsD (K : PySem.W.Frag) (H : Hp) (v : V) (o : List Str) : Prop := ∃ d, Dp K H v d ∧ smD 20 d = true ∧ tupN 20 d = outD o
theorem TreeD.same {K : PySem.W.Frag} {H H' : Hp} {v : V} {t : T} (s : Same H H') (h : TreeD K H v t) : TreeD K H' v t := by
  obtain ⟨d, h1, h2⟩ := h
  exact ⟨d, h1.same s, h2⟩
theorem OutsD.same {K : PySem.W.Frag} {H H' : Hp} {v : V} {o : List Str} (s : Same H H') (h : OutsD K H v o) : OutsD K H' v o := by
  obtain ⟨d, h1, h2⟩ := h
  exact ⟨d, h1.same s, h2⟩
theorem TreeD.of {K : PySem.W.Frag} {H : Hp} {v : V} {t : T} (h : Dp K H v t.data) (ok : okT t) : TreeD K H v t := ⟨_, h, smD_ok ok, tupN_T 20 t ok.1, ok⟩
theorem all_smD_str : ∀ (n : Nat) (o : List Str), (o.map PyData.str).all (smD n) = true
  | _, [] => rfl
  | n, x :: o => by
    rw [List.map_cons, List.all_cons, all_smD_str n o]
    cases n <;> rfl
theorem map_tupN_str : ∀ (n : Nat) (o : List Str), (o.map PyData.str).map (tupN n) = o.map PyData.str
  | _, [] => rfl
  | n, x :: o => by
    rw [List.map_cons, List.map_cons, map_tupN_str n o, tupN_flat rfl]
theorem OutsD.of {K : PySem.W.Frag} {H : Hp} {v : V} {o : List Str} (h : Dp K H v (outD o)) (hl : o.length ≤ 1000) : OutsD K H v o := by
  refine ⟨_, h, ?_, ?_⟩
  · show (decide ((o.map PyData.str).length ≤ 1000) && (o.map PyData.str).all (smD 19)) = true
    rw [all_smD_str, List.length_map, decide_eq_true hl]
    rfl
  · show PyData.tuple ((o.map PyData.str).map (tupN 19)) = _
    rw [map_tupN_str]
    rfl
theorem bls_back {K : PySem.W.Frag} {H : Hp} : ∀ {vs : List V} {bs : List Bool}, DpAll K H vs (bs.map PyData.bool) → vs = bs.map V.bl
  | [], [], _ => rfl
  | _ :: _, [], h => by cases h
  | [], _ :: _, h => by cases h
  | v :: vs, x :: xs, h => by
    cases h with
    | cons h r => rw [h.blI, bls_back r]; rfl
theorem ints_back {K : PySem.W.Frag} {H : Hp} : ∀ {vs : List V} {bs : List Int}, DpAll K H vs (bs.map PyData.int) → vs = bs.map V.int
  | [], [], _ => rfl
  | _ :: _, [], h => by cases h
  | [], _ :: _, h => by cases h
  | v :: vs, x :: xs, h => by
    cases h with
    | cons h r => rw [h.intI, ints_back r]; rfl
/-! ### promises -/
def spWhole (K : PySem.W.Frag) : Sp := fun vs H Q _ => ∃ a t, vs = [.ref a] ∧ TreeAt K H a t ∧ ∀ H' v', Same H H' → Dp K H' v' (wholeD t) → Q v' H'
def spLockInit (K : PySem.W.Frag) : Sp := fun vs H Q _ => ∃ a dx v vo t o, vs = [.ref a, v, vo] ∧ NewAt H a (CL K) dx ∧ TreeD K H v t ∧ OutsD K H vo o ∧ ∀ H', Keep [a, dx] H H' → LockAt K H' a t (nums t o) → Q .non H'
def spHasAny (K : PySem.W.Frag) : Sp := fun vs H Q _ => ∃ a t ns v p, vs = [.ref a, v] ∧ LockAt K H a t ns ∧ ns.length ≤ 1000 ∧ NdAt H v p ∧ ∀ H', Same H H' → Q (.bl (hasAny ns p)) H'
def spTorn (K : PySem.W.Frag) : Sp := fun vs H Q _ => ∃ a t ns v p, vs = [.ref a, v] ∧ LockAt K H a t ns ∧ ns.length ≤ 1000 ∧ NdAt H v p ∧ p ∈ subs 0 t ∧ ∀ H' l xs, Same H H' → H l = none → H' l = some (.lst xs) → NdAll H' xs (torn ns p) → Q (.ref l) H'
def RowAt (H : Hp) (v : V) (r : List Nd) : Prop := ∃ b xs, v = .ref b ∧ H b = some (.tup xs) ∧ NdAll H xs r
theorem stRow : StR RowAt := ⟨fun k h => by
  obtain ⟨b, xs, e, q, r⟩ := h
  exact ⟨b, xs, e, k _ _ q, r.keep k⟩⟩
def spRow (K : PySem.W.Frag) : Sp := fun vs H Q _ => ∃ a t ns v p, vs = [.ref a, v] ∧ LockAt K H a t ns ∧ ns.length ≤ 1000 ∧ okT t ∧ NdAt H v p ∧ p ∈ subs 0 t ∧ ∀ H' v', Same H H' → RowAt H' v' (row ns p) → Q v' H'
def spRows (K : PySem.W.Frag) : Sp := fun vs H Q _ => ∃ a t ns, vs = [.ref a] ∧ LockAt K H a t ns ∧ ns.length ≤ 1000 ∧ okT t ∧ ∀ H' l xs, Same H H' → H l = none → H' l = some (.lst xs) → Paired (RowAt H') xs (rowsS ns t) → Q (.ref l) H'
def spParts (K : PySem.W.Frag) : Sp := fun vs H Q _ => ∃ a t ns, vs = [.ref a] ∧ LockAt K H a t ns ∧ ns.length ≤ 1000 ∧ okT t ∧ ∀ H' l xs, Same H H' → H l = none → H' l = some (.lst xs) → DpAll K H' xs (partsL ns t) → Q (.ref l) H'
def spLeast (K : PySem.W.Frag) : Sp := fun vs H Q _ => ∃ v vo t o, vs = [v, vo] ∧ TreeD K H v t ∧ OutsD K H vo o ∧ ∀ H' v', Same H H' → Dp K H' v' (hdrD t o) → Q v' H'
section
variable {w : World} {K : PySem.W.Frag} {mg : Str → Option Value} {base : Heap}
theorem nd_dp {K : PySem.W.Frag} {H : Hp} {v : V} {p : Nd} (h : NdAt H v p) : Dp K H v (ndD p) := by
  obtain ⟨b, rfl, e⟩ := h
  exact ndM e
theorem ok_whole (T : Txt K mg) : FnX w K mg base CX0 2 ("whole", none) (spWhole K) := by
  have FH := ok_Tree_head (w := w) (base := base) T
  refine fnr (ps := ["own"]) (T.fn 9) sc_whole ?ln ?bd (fun _ _ _ _ _ _ us hl => match us, hl with | [_], _ => rfl)
  case ln =>
    rintro _ _ _ _ ⟨a, t, rfl, _⟩
    rfl
  case bd =>
    intro cdv A outer s H vs Q E hr h
    apply bodyN
    case h => exact pss_one (ps_ret (pe_tup (pa_cons (SlX.pe_methSl0 (pv 0) (T.scls (x := "Tree")) (T.meth (x := "Tree") (m := "head")) FH hr pass0) (pa_cons (pe_glob (v := .ref (He.ga K "UNCUT")) (by rfl) T.glo rfl) pa_nil))))
    case r =>
      obtain ⟨a, t, rfl, ht, hQ⟩ := h
      obtain ⟨dx, lb, sd, hd, kvs, h1, _⟩ := id ht
      refine ⟨_, rfl, a, dx, _, rfl, h1, a, t, rfl, ht, fun H1 v1 s1 n1 => ?_⟩
      refine ⟨by show 2 ≤ sizeLine; decide, fun p np => hQ _ _ (s1.trans (same_new np)) ?_⟩
      refine .tupM upd_same (.cons ((nd_dp n1).same (same_new np)) (.cons (.tup (T.uncut _) .nil) .nil))
theorem ok_Locked_has_any (T : Txt K mg) : FnX w K mg base CX0 1 ("Locked", some "has_any") (spHasAny K) := by
  refine fnr (ps := ["self", "node"]) (T.fn 11) sc_Locked_has_any ?ln ?bd (fun _ _ _ _ _ _ us hl => match us, hl with | [_, _], _ => rfl)
  case ln =>
    rintro _ _ _ _ ⟨a, t, ns, v, p, rfl, _⟩
    rfl
  case bd =>
    intro cdv A outer s H vs Q E hr h
    apply bodyN
    case h => exact pss_one (ps_ret (pe_callB (cr_any rfl) (by rfl) T.free boot_any (pa_cons (pe_lcR (own := [("number", 2)]) (g := gName 2) (tt := tYes) (by rfl) sc_Locked_has_any.nd (pi_seq (SlX.pe_sl (pv 0))) (blkOk_by (own := [("number", 2)]) (N := N_Locked_has_any) (sc := defScope s_Locked_has_any) (by decide +kernel))
            (fun _ _ _ _ _ => pg_name (i := 2) sc_Locked_has_any.nd rfl (.inl rfl)) (fun _ _ _ _ _ => pts_nil) (fun _ _ _ _ _ => pe_chain op_le op_lt (pe_ix (ixT K rfl) (pv 1) pe_int (fun _ _ => rfl)) (pv 2) (pe_ix (ixT K rfl) (pv 1) pe_int (fun _ _ => rfl)))) pa_nil)))
    case r =>
      obtain ⟨a, t, ns, v, p, rfl, hl, hz, hv, hQ⟩ := h
      obtain ⟨dx, ln, ta, h1, h2, h3⟩ := hl
      refine ⟨_, rfl, a, _, dx, _, _, _, _, rfl, h1, T.scls (x := "Locked"), T.slot (x := "Locked") (f := "own_numbers") (i := 0), rfl, ln, rfl, comp_seq (.inl (.of h3)) (fun i => (ns[i]?).map fun j => PyData.bool (decide (p.1 ≤ j) && decide (j < nE p))) (fun D i x H2 nD hx hi acc => ?_) fun D H2 acc => ?_⟩
      · obtain ⟨b, rfl, hb⟩ := hv
        rw [List.length_map] at hi
        obtain ⟨j, hj, ej⟩ : ∃ j, ns[i]? = some j ∧ x = V.int (j : Int) := by
          rw [List.getElem?_map] at hx
          cases q : ns[i]? with
          | none => rw [q] at hx; cases hx
          | some j => rw [q] at hx; exact ⟨j, rfl, (Option.some.inj hx).symm⟩
        subst ej
        have hb2 := acc.1 _ _ hb
        refine ⟨rfl, yes_t ⟨_, rfl, _, _, 0, _, rfl, rfl, .of hb2, atI_nat (j := 0) rfl, _, rfl, _, _, rfl, rfl, _, rfl, ?_⟩⟩
        have hp : ∀ y : Bool, y = (decide (p.1 ≤ j) && decide (j < nE p)) → ∃ acc, H2 D = some (.lst acc) ∧ acc.length < sizeLine ∧ AccF K H D (fun i => (ns[i]?).map fun j => PyData.bool (decide (p.1 ≤ j) && decide (j < nE p))) (i + 1) (upd H2 D (.lst (acc ++ [.bl y]))) := fun y e => by
          subst e
          exact acc.pushN (by show (ns[i]?).map _ = _; rw [hj]; rfl) rfl (.bl _) (small1000 (by omega))
        by_cases c : ((p.1 : Nat) : Int) ≤ (j : Int)
        · rw [decide_eq_true c]
          refine iteT ⟨_, rfl, _, _, 1, _, rfl, rfl, .of hb2, atI_nat (j := 1) rfl, _, _, rfl, rfl, hp _ ?_⟩
          rw [decide_eq_true (by omega : p.1 ≤ j), Bool.true_and]
          by_cases c2 : j < nE p
          · rw [decide_eq_true c2, decide_eq_true (by omega)]
          · rw [decide_eq_false c2, decide_eq_false (by omega)]
        · rw [decide_eq_false c]
          refine iteF (hp _ ?_)
          rw [decide_eq_false (by omega : ¬ p.1 ≤ j), Bool.false_and]
      · obtain ⟨items, eD, hI⟩ := acc.list
        rw [List.length_map] at hI
        have e2 : (List.range ns.length).filterMap (fun i => (ns[i]?).map fun j => PyData.bool (decide (p.1 ≤ j) && decide (j < nE p))) = (ns.map fun j => decide (p.1 ≤ j) && decide (j < nE p)).map PyData.bool := by
          rw [fm_map, List.map_map]
          rfl
        rw [e2] at hI
        have e3 : items = (ns.map fun j => decide (p.1 ≤ j) && decide (j < nE p)).map V.bl := bls_back hI
        refine ⟨D, _, rfl, .of (by rw [eD, e3]), ?_⟩
        have e4 : ((ns.map fun j => decide (p.1 ≤ j) && decide (j < nE p)).any id) = hasAny ns p := by
          rw [List.any_map]
          rfl
        rw [e4]
        exact hQ H2 acc.1
theorem ok_Locked_torn (T : Txt K mg) : FnX w K mg base CX0 2 ("Locked", some "torn_sides") (spTorn K) := by
  have FA := ok_Locked_has_any (w := w) (base := base) T
  have FS := ok_Tree_sides (w := w) (base := base) T
  refine fnr (ps := ["self", "node"]) (T.fn 12) sc_Locked_torn_sides ?ln ?bd (fun _ _ _ _ _ _ us hl => match us, hl with | [_, _], _ => rfl)
  case ln =>
    rintro _ _ _ _ ⟨a, t, ns, v, p, rfl, _⟩
    rfl
  case bd =>
    intro cdv A outer s H vs Q E hr h
    apply bodyN
    case h => exact pss_one (ps_ret (pe_lcR (own := [("side", 2)]) (g := gName 2) (by rfl) sc_Locked_torn_sides.nd
            (pi_seq (SlX.pe_methSl (SlX.pe_sl (pv 0)) (T.scls (x := "Tree")) (T.meth (x := "Tree") (m := "sides")) FS hr pass0 (pa_cons (pv 1) pa_nil))) (blkOk_by (own := [("side", 2)]) (N := N_Locked_torn_sides) (sc := defScope s_Locked_torn_sides) (by decide +kernel))
            (fun _ _ _ _ _ => pg_name (i := 2) sc_Locked_torn_sides.nd rfl (.inl rfl)) (fun _ _ _ _ _ => pts_one (pt_val (SlX.pe_methSl (pv 0) (T.scls (x := "Locked")) (T.meth (x := "Locked") (m := "has_any")) FA hr pass0 (pa_cons (pv 2) pa_nil)))) (fun _ _ _ _ _ => pv 2)))
    case r =>
      obtain ⟨a, t, ns, v, p, rfl, hl, hz, hv, hp, hQ⟩ := h
      obtain ⟨dx, ln, ta, h1, h2, h3⟩ := id hl
      obtain ⟨dx', lb, sd, hd, kvs, t1, _⟩ := id h2
      refine ⟨_, rfl, a, _, dx, _, _, _, _, rfl, h1, T.scls (x := "Locked"), T.slot (x := "Locked") (f := "own_tree") (i := 1), rfl, ta, dx', _, rfl, t1, _, rfl, ta, t, v, p, rfl, h2, hv, hp, fun H1 v1 s1 sd1 => ?_⟩
      obtain ⟨b, xs, rfl, hb, hxs⟩ := sd1
      refine ⟨b, rfl, comp_seqG (R := NdAt) (.inr (.of hb)) (fun i => ((sidesT p)[i]?).bind fun q => if hasAny ns q = true then some q else none) (fun D i x H2 nD hx hi acc => ?_) fun D H2 acc => ?_⟩
      · obtain ⟨q, hq, hxq⟩ := paired_get hxs hx
        have hs2 := s1.trans acc.1
        have hq2 := hxq.keep (.of acc.1)
        have hlt : i < sizeLine := by
          have hle : (sidesT p).length ≤ 2 := by obtain ⟨n, t⟩ := p; cases t <;> simp [sidesT]
          have := paired_len hxs
          exact small1000 (by omega)
        refine ⟨rfl, _, rfl, a, dx, _, rfl, slt_same hs2 h1, x, rfl, a, t, ns, x, q, rfl, hl.same hs2, hz, hq2, fun H3 s3 => ⟨_, rfl, ?_⟩⟩
        cases c : hasAny ns q with
        | true => exact iteT ⟨x, rfl, (acc.same stNd s3).push stNd (by show ((sidesT p)[i]?).bind _ = _; rw [hq]; show (if hasAny ns q = true then some q else none) = _; rw [c]; rfl) (hq2.keep (.of s3)) hlt⟩
        | false => exact iteF ((acc.same stNd s3).skip (by show ((sidesT p)[i]?).bind _ = _; rw [hq]; show (if hasAny ns q = true then some q else none) = _; rw [c]; rfl))
      · obtain ⟨sD, nD, items, eD, hI⟩ := acc
        rw [paired_len hxs, fm_filt (sidesT p) (hasAny ns) (fun q => q), List.map_id'] at hI
        exact hQ H2 D items (s1.trans sD) (s1.free nD) eD hI
theorem chainOf_ne {ns : List Nat} {l : List Nd} (h : l.length ≠ 1) : chainOf ns l = [] := by
  cases l with
  | nil => rfl
  | cons a l => cases l with
    | nil => exact absurd rfl h
    | cons b l => rfl
theorem sub_size {t : T} {p : Nd} (h : p ∈ subs 0 t) : p.2.size ≤ t.size := by
  have z := subs_range t 0 p h
  unfold nE at z
  omega
theorem torn_mem {ns : List Nat} {p q : Nd} (h : q ∈ torn ns p) : q ∈ sidesT p := (List.mem_filter.mp h).1
theorem ok_Locked_row (T : Txt K mg) : FnX w K mg base CX0 3 ("Locked", some "row_from") (spRow K) := by
  have FT := ok_Locked_torn (w := w) (base := base) T
  refine fnr (ps := ["self", "node"]) (T.fn 13) sc_Locked_row_from ?ln ?bd (fun _ _ _ _ _ _ us hl => match us, hl with | [_, _], _ => rfl)
  case ln =>
    rintro _ _ _ _ ⟨a, t, ns, v, p, rfl, _⟩
    rfl
  case bd =>
    intro cdv A outer s H vs Q E hr h
    apply bodyN
    case h =>
      apply pss_cons
      · exact (ps_par (i := 2) (j := 3) (by rfl) sc_Locked_row_from.nd rfl rfl (by decide) rfl rfl (pa_cons (pe_lst (pa_cons (pv 1) pa_nil)) (pa_cons (SlX.pe_methSl (pv 0) (T.scls (x := "Locked")) (T.meth (x := "Locked") (m := "torn_sides")) FT hr pass0 (pa_cons (pv 1) pa_nil)) pa_nil)) (by rfl))
      apply pss_cons
      · apply ps_while PassesOwn.never
        · exact (pt_cmpR op_eq (pe_callB call_len_seq (by rfl) T.free PySem.boot_len (pa_cons (pv 3) pa_nil)) pe_int (nomark _))
        · exact (pss_cons (ps_expr (pe_bm PySem.F.plainAttrs_list PySem.F.slot_list_append PySem.F.type_list_append mt_append (pv 2) (pa_cons (pe_ix ix_list (pv 3) pe_int (fun _ _ => rfl)) pa_nil)))
            (pss_one (ps_set (i := 3) sc_Locked_row_from.nd rfl (.inl rfl) (SlX.pe_methSl (pv 0) (T.scls (x := "Locked")) (T.meth (x := "Locked") (m := "torn_sides")) FT hr pass0 (pa_cons (pe_ix ix_list (pv 3) pe_int (fun _ _ => rfl)) pa_nil)))))
      · exact (pss_one (ps_ret (pe_callTy call_tuple_of (by rfl) T.free boot_tuple (pa_cons (pv 2) pa_nil))))
    case r =>
      obtain ⟨a, t, ns, v, p, rfl, hl, hz, ok, hv, hp, hQ⟩ := h
      have ⟨dx, ln, ta, h1, h2, h3⟩ := id hl
      refine ⟨_, rfl, by show 1 ≤ sizeLine; decide, fun lf nlf => ?_⟩
      have s1 : Same H (upd H lf (.lst [v])) := same_new nlf
      have e1 : upd H lf (.lst [v]) lf = some (.lst [v]) := upd_same
      generalize upd H lf (.lst [v]) = H1 at s1 e1 ⊢
      refine ⟨_, rfl, a, dx, _, rfl, slt_same s1 h1, _, rfl, a, t, ns, v, p, rfl, hl.same s1, hz, hv.keep (.of s1), hp, fun H2 ls xs s2 n2 e2 hx => ⟨_, _, rfl, ?_⟩⟩
      refine ⟨fun m σ' H' => ∃ pre q ls vs ws, σ' = [some (.ref a), some v, some (.ref lf), some (.ref ls)] ∧ q.2.size = m ∧ Same H H' ∧ H' lf = some (.lst vs) ∧ NdAll H' vs (pre ++ [q]) ∧ row ns p = pre ++ q :: chain ns q.1 q.2 ∧ H' ls = some (.lst ws) ∧ NdAll H' ws (torn ns q) ∧ q ∈ subs 0 t ∧ lf ≠ ls ∧ pre.length + q.2.size ≤ 100, ⟨_, [], p, ls, [v], xs, rfl, rfl, s1.trans s2, s2 _ _ e1, .cons (hv.keep (.of (s1.trans s2))) .nil, rfl, e2, hx, hp, ne_of_none e1 n2, ?_⟩, ?_⟩
      · have := sub_size hp
        have := ok.2
        simp
        omega
      · rintro m _ H3 ⟨pre, q, ls, vs, ws, rfl, rfl, s3, e3, r3, hrow, e4, r4, hq, ne, hz2⟩
        refine ⟨_, rfl, ls, ws, rfl, .inl (.of e4), rfl, _, rfl, ?_⟩
        have hlw := paired_len r4
        by_cases c : (torn ns q).length = 1
        · rw [decide_eq_true (by rw [hlw, c]; rfl)]
          refine iteT ?_
          obtain ⟨sd, esd⟩ : ∃ sd, torn ns q = [sd] := List.length_eq_one_iff.mp c
          have hsd : sd ∈ sidesT q := torn_mem (ns := ns) (by rw [esd]; exact List.mem_singleton.mpr rfl)
          have hlt := side_size hsd
          rw [esd] at r4
          obtain ⟨y, rfl, hy⟩ : ∃ y, ws = [y] ∧ NdAt H3 y sd := by
            cases r4 with
            | cons h t => cases t; exact ⟨_, rfl, h⟩
          have hlv := paired_len r3
          rw [List.length_append, List.length_singleton] at hlv
          refine ⟨fun σ' H' => ∃ pre q' ls vs ws, σ' = [some (.ref a), some v, some (.ref lf), some (.ref ls)] ∧ q'.2.size < q.2.size ∧ Same H H' ∧ H' lf = some (.lst vs) ∧ NdAll H' vs (pre ++ [q']) ∧ row ns p = pre ++ q' :: chain ns q'.1 q'.2 ∧ H' ls = some (.lst ws) ∧ NdAll H' ws (torn ns q') ∧ q' ∈ subs 0 t ∧ lf ≠ ls ∧ pre.length + q'.2.size ≤ 100, ?_, ?_⟩
          · rintro σ' H' ⟨pre', q', ls', vs', ws', e, hm, r⟩
            exact ⟨_, hm, pre', q', ls', vs', ws', e, rfl, r⟩
          · refine ⟨_, rfl, .inl ⟨rfl, _, .of e3⟩, _, rfl, _, _, 0, _, rfl, rfl, .of e4, atI_nat (j := 0) rfl, _, _, _, rfl, rfl, e3, small1000 (by omega), ?_⟩
            have k5 := tk_list (o := .lst (vs ++ [y])) e3
            have s5 : Same H (upd H3 lf (.lst (vs ++ [y]))) := fun b u z => by rw [upd_ne (ne_of_none z nlf)]; exact s3 b u z
            have e5 : upd H3 lf (.lst (vs ++ [y])) lf = some (.lst (vs ++ [y])) := upd_same
            have e6 : upd H3 lf (.lst (vs ++ [y])) ls = some (.lst [y]) := by rw [upd_ne (Ne.symm ne)]; exact e4
            generalize upd H3 lf (.lst (vs ++ [y])) = H4 at k5 s5 e5 e6 ⊢
            have hsq := subs_side t 0 q sd hq hsd
            refine ⟨_, rfl, a, dx, _, rfl, slt_same s5 h1, _, rfl, _, _, 0, _, rfl, rfl, .of e6, atI_nat (j := 0) rfl, a, t, ns, y, sd, rfl, hl.same s5, hz, hy.keep k5, hsq, fun H6 ls' xs' s6 n6 e7 hx' => ?_⟩
            refine ⟨pre ++ [q], sd, ls', _, xs', rfl, hlt, s5.trans s6, s6 _ _ e5, ?_, ?_, e7, hx', hsq, ne_of_none e5 n6, ?_⟩
            · exact paired_app (NdAll.keep (k5.trans (.of s6)) r3) (.cons (hy.keep (k5.trans (.of s6))) .nil)
            · rw [hrow, chain_torn, esd, List.append_assoc]
              rfl
            · rw [List.length_append, List.length_singleton]
              omega
        · rw [decide_eq_false (fun z => c (by
            have z' : ((ws.length : Nat) : Int) = 1 := V.int.inj z
            omega))]
          refine iteF ⟨_, rfl, lf, vs, rfl, .inl ⟨.of e3, fun l nl => hQ _ _ (s3.trans (same_new nl)) ⟨l, vs, rfl, upd_same, ?_⟩⟩⟩
          rw [hrow, chain_torn, chainOf_ne c]
          exact NdAll.keep (.of (same_new nl)) r3
theorem paired_last {α β : Type} {R : α → β → Prop} : ∀ {l : List α} {m : List β} (h : m ≠ []), Paired R l m → ∃ l' a, l = l' ++ [a] ∧ R a (m.getLast h)
  | _, _, h, .nil => absurd rfl h
  | _, _, _, .cons (a := a) r .nil => ⟨[], a, rfl, r⟩
  | _, _, _, .cons (a := a) r (.cons r2 t) => by
    obtain ⟨l', b, e, q⟩ := paired_last (List.cons_ne_nil _ _) (Paired.cons r2 t)
    exact ⟨a :: l', b, by rw [e]; rfl, by simpa using q⟩
theorem paired_drop {α β : Type} {R : α → β → Prop} : ∀ {l : List α} {m : List β}, Paired R l m → Paired R l.dropLast m.dropLast
  | _, _, .nil => .nil
  | _, _, .cons _ .nil => .nil
  | _, _, .cons h (.cons h2 r) => .cons h (paired_drop (.cons h2 r))
theorem meas_len : ∀ w : List Nd, w.length ≤ meas w
  | [] => Nat.le_refl _
  | p :: w => by
    have a := meas_len w
    have b := p.2.size_pos
    show w.length + 1 ≤ (((p :: w).map fun p => 2 * p.2.size - 1).sum)
    rw [List.map_cons, List.sum_cons]
    unfold meas at a
    omega
theorem alike_nds : ∀ a b : List Nd, PySem.W.alikeAll (a.map ndD) (b.map ndD) = true
  | [], _ => by simp [PySem.W.alikeAll]
  | _ :: _, [] => by simp [PySem.W.alikeAll]
  | x :: xs, y :: ys => by
    show PySem.W.alikeAll (ndD x :: xs.map ndD) (ndD y :: ys.map ndD) = true
    rw [PySem.W.alikeAll, alike_nds xs ys]
    simp [ndD, PySem.W.alike, PySem.W.alikeAll]
theorem depth_nds : ∀ a : List Nd, PyData.depthAll (a.map ndD) ≤ 1
  | [] => by simp [PyData.depthAll]
  | x :: xs => by
    show PyData.depthAll (ndD x :: xs.map ndD) ≤ 1
    rw [PyData.depthAll]
    have := depth_nds xs
    simp only [ndD, PyData.depth, PyData.depthAll]
    omega
theorem srt_rows {l : List (List Nd)} (h : l.length ≤ 1000) (hne : ∀ r ∈ l, r ≠ []) : SrtOk rowD l := by
  refine ⟨PySem.W.AllAlike.of fun b b' => ?_, .inl fun d hd => ?_, h, fun b _ => ?_⟩
  · show PySem.W.alike (.tuple (b.map ndD)) (.tuple (b'.map ndD)) = true
    rw [PySem.W.alike]
    exact alike_nds b b'
  · obtain ⟨b, hb, rfl⟩ := List.mem_map.mp hd
    cases b with
    | nil => exact absurd rfl (hne _ hb)
    | cons x r => exact ⟨_, _, rfl⟩
  · show PyData.depth (.tuple (b.map ndD)) ≤ 60
    rw [PyData.depth]
    have := depth_nds b
    omega
theorem row_dp {K : PySem.W.Frag} {H : Hp} {v : V} {r : List Nd} (h : RowAt H v r) : Dp K H v (rowD r) := by
  obtain ⟨b, xs, rfl, e, hx⟩ := h
  refine .tupM e ?_
  clear e
  induction hx with
  | nil => exact .nil
  | cons h t ih => exact .cons (nd_dp h) ih
theorem ok_Locked_rows (T : Txt K mg) : FnX w K mg base CX0 4 ("Locked", some "rows") (spRows K) := by
  have FT := ok_Locked_torn (w := w) (base := base) T
  have FR := ok_Locked_row (w := w) (base := base) T
  have FH := ok_Tree_head (w := w) (base := base) T
  refine fnr (ps := ["self"]) (T.fn 14) sc_Locked_rows ?ln ?bd (fun _ _ _ _ _ _ us hl => match us, hl with | [_], _ => rfl)
  case ln =>
    rintro _ _ _ _ ⟨a, t, ns, rfl, _⟩
    rfl
  case bd =>
    intro cdv A outer s H vs Q E hr h
    apply bodyN
    case h =>
      apply pss_cons
      · exact (ps_par (i := 1) (j := 2) (by rfl) sc_Locked_rows.nd rfl rfl (by decide) rfl rfl (pa_cons (pe_lst pa_nil) (pa_cons (pe_lst (pa_cons (SlX.pe_methSl0 (SlX.pe_sl (pv 0)) (T.scls (x := "Tree")) (T.meth (x := "Tree") (m := "head")) FH (hr.mono (by decide)) pass0) pa_nil)) pa_nil)) (by rfl))
      apply pss_cons
      · apply ps_while PassesOwn.never
        · exact (pt_cmpR op_gt (pe_callB call_len_seq (by rfl) T.free PySem.boot_len (pa_cons (pv 2) pa_nil)) pe_int (nomark _))
        · exact (pss_cons (ps_set (i := 3) sc_Locked_rows.nd rfl (.inl rfl) (SlX.pe_methSl (pv 0) (T.scls (x := "Locked")) (T.meth (x := "Locked") (m := "row_from")) FR hr pass0 (pa_cons (pe_bm0 PySem.F.plainAttrs_list PySem.F.slot_list_pop PySem.F.type_list_pop mt_pop (pv 2)) pa_nil)))
            (pss_cons (ps_expr (pe_bm PySem.F.plainAttrs_list PySem.F.slot_list_extend PySem.F.type_list_extend mt_extend (pv 2) (pa_cons (SlX.pe_methSl (pv 0) (T.scls (x := "Locked")) (T.meth (x := "Locked") (m := "torn_sides")) FT (hr.mono (by decide)) pass0 (pa_cons (pe_ix ix_tup (pv 3) (pe_un un_neg pe_int) (fun _ _ => rfl)) pa_nil)) pa_nil)))
            (pss_one (ps_expr (pe_bm PySem.F.plainAttrs_list PySem.F.slot_list_extend PySem.F.type_list_extend mt_extend (pv 1) (pa_cons (pe_ifExp (pt_cmpR op_gt (pe_callB call_len_seq (by rfl) T.free PySem.boot_len (pa_cons (pv 3) pa_nil)) pe_int (nomark _)) (pe_lst (pa_cons (pv 3) pa_nil)) (pe_lst pa_nil)) pa_nil))))))
      · exact (pss_one (ps_ret (pe_callB (call_srt rowD RowAt hr.units) (by rfl) T.free boot_sorted (pa_cons (pv 1) pa_nil))))
    case r =>
      obtain ⟨a, t, ns, rfl, hl, hz, ok, hQ⟩ := h
      have ⟨dx, ln, ta, h1, h2, h3⟩ := id hl
      obtain ⟨dx', lb, sd, hd, kvs, t1, _⟩ := id h2
      refine ⟨by show 0 ≤ sizeLine; decide, fun lf nlf => ?_⟩
      have s1 : Same H (upd H lf (.lst [])) := same_new nlf
      have e1 : upd H lf (.lst []) lf = some (.lst []) := upd_same
      generalize upd H lf (.lst []) = H1 at s1 e1 ⊢
      refine ⟨_, rfl, a, _, dx, _, _, _, _, rfl, slt_same s1 h1, T.scls (x := "Locked"), T.slot (x := "Locked") (f := "own_tree") (i := 1), rfl, ta, dx', _, rfl, slt_same s1 t1, ta, t, rfl, h2.same s1, fun H2 v2 s2 n2 => ?_⟩
      refine ⟨by show 1 ≤ sizeLine; decide, fun lw nlw => ⟨_, _, rfl, ?_⟩⟩
      have s3 : Same H2 (upd H2 lw (.lst [v2])) := same_new nlw
      have e3 : upd H2 lw (.lst [v2]) lw = some (.lst [v2]) := upd_same
      have ne0 : lf ≠ lw := ne_of_none (s2 _ _ e1) nlw
      have nlwH : H lw = none := (s1.trans s2).free nlw
      generalize upd H2 lw (.lst [v2]) = H3 at s3 e3 ⊢
      refine ⟨fun m σ' H' => ∃ rv vs ws fnd wt, σ' = [some (.ref a), some (.ref lf), some (.ref lw), rv] ∧ rowsGo ns m wt fnd = rowsAll ns t ∧ meas wt + 1 ≤ m ∧ fnd.length + m ≤ 200 ∧ Same H H' ∧ H' lf = some (.lst vs) ∧ Paired (RowAt H') vs fnd ∧ H' lw = some (.lst ws) ∧ NdAll H' ws wt ∧ (∀ q ∈ wt, q ∈ subs 0 t) ∧ ∀ r ∈ fnd, r ≠ [],
        ⟨2 * t.size, none, [], [v2], [], [(0, t)], rfl, rfl, ?_, ?_, (s1.trans s2).trans s3, s3 _ _ (s2 _ _ e1), .nil, e3, .cons (n2.keep (.of s3)) .nil, fun q hq => by rw [List.mem_singleton.mp hq]; exact subs_self _ _, fun r hr => absurd hr (by simp)⟩, ?_⟩
      · have := t.size_pos
        show [2 * t.size - 1].sum + 1 ≤ 2 * t.size
        simp
        omega
      · have := ok.2
        simp
        omega
      · rintro m _ H4 ⟨rv, vs, ws, fnd, wt, rfl, hgo, hms, hz2, s4, e4, r4, e5, r5, hsub, hne⟩
        have hlw := paired_len r5
        have hlv := paired_len r4
        refine ⟨_, rfl, lw, ws, rfl, .inl (.of e5), _, _, rfl, rfl, _, rfl, ?_⟩
        obtain ⟨m', rfl⟩ : ∃ m', m = m' + 1 := ⟨m - 1, by omega⟩
        have ne1 : lf ≠ lw := fun z => by
          have q := meas_len wt
          rw [z] at e4
          rw [e4] at e5
          cases e5
          exact ne0 z
        by_cases c : wt = []
        · subst c
          have ew : ws = [] := List.length_eq_zero_iff.mp hlw
          rw [decide_eq_false (by rw [ew]; simp)]
          have hf : fnd = rowsAll ns t := hgo
          refine iteF ⟨_, rfl, lf, vs, fnd, rfl, .inl (.of e4), r4, fun x b h => row_dp h, srt_rows (by omega) hne, fun p outs np ho => hQ _ p outs (s4.trans (same_new np)) (s4.free np) upd_same ?_⟩
          rw [hf] at ho
          exact stRow.all (.of (same_new np)) ho
        · obtain ⟨ws0, y, ews, hy⟩ := paired_last c r5
          have hpos : ws.length ≠ 0 := by rw [ews]; simp
          rw [decide_eq_true (by have : 0 < ws.length := Nat.pos_of_ne_zero hpos; omega)]
          refine iteT ?_
          have hgl : wt.getLast? = some (wt.getLast c) := List.getLast?_eq_some_getLast c
          generalize hp : wt.getLast c = p at hy hgl
          have hpm : p ∈ wt := by rw [← hp]; exact List.getLast_mem c
          have hstep := step_meas ns hgl
          have hgo' : rowsGo ns m' (wt.dropLast ++ torn ns (rowEnd ns p)) (fnd ++ if (row ns p).length > 1 then [row ns p] else []) = rowsAll ns t := by
            rw [← hgo]
            show _ = (match wt.getLast? with
              | none => fnd
              | some p => rowsGo ns m' (wt.dropLast ++ torn ns (rowEnd ns p)) (fnd ++ if (row ns p).length > 1 then [row ns p] else []))
            rw [hgl]
          refine ⟨fun σ' H' => ∃ rv vs ws fnd wt, σ' = [some (.ref a), some (.ref lf), some (.ref lw), rv] ∧ rowsGo ns m' wt fnd = rowsAll ns t ∧ meas wt + 1 ≤ m' ∧ fnd.length + m' ≤ 200 ∧ Same H H' ∧ H' lf = some (.lst vs) ∧ Paired (RowAt H') vs fnd ∧ H' lw = some (.lst ws) ∧ NdAll H' ws wt ∧ (∀ q ∈ wt, q ∈ subs 0 t) ∧ ∀ r ∈ fnd, r ≠ [], fun σ' H' h => ⟨m', Nat.lt_succ_self _, h⟩, ?_⟩
          refine ⟨_, rfl, a, dx, _, rfl, slt_same s4 h1, _, rfl, .inl ⟨rfl, _, .of e5⟩, lw, ws, y, rfl, rfl, e5, by rw [ews]; simp, ?_⟩
          have k5 := tk_list (o := .lst ws.dropLast) e5
          have s5 : Same H (upd H4 lw (.lst ws.dropLast)) := fun b u z => by rw [upd_ne (ne_of_none z nlwH)]; exact s4 b u z
          have g5 : upd H4 lw (.lst ws.dropLast) lw = some (.lst ws.dropLast) := upd_same
          have g4 : upd H4 lw (.lst ws.dropLast) lf = some (.lst vs) := by rw [upd_ne ne1]; exact e4
          generalize upd H4 lw (.lst ws.dropLast) = H5 at k5 s5 g5 g4 ⊢
          refine ⟨a, t, ns, y, p, rfl, hl.same s5, hz, ok, hy.keep k5, hsub p hpm, fun H6 rv6 s6 row6 => ?_⟩
          have row6' := row6
          obtain ⟨rb, rxs, rfl, erb, hrx⟩ := row6
          obtain ⟨rx0, ry, erx, hry⟩ := paired_last (m := row ns p) (List.cons_ne_nil _ _) hrx
          have hry' : NdAt H6 ry (rowEnd ns p) := hry
          have g6 := s6 _ _ g5
          have hend : rowEnd ns p ∈ subs 0 t := subs_trans t 0 p _ (hsub p hpm) (row_mem (List.getLast_mem (List.cons_ne_nil _ _))).1
          have s56 := s5.trans s6
          refine ⟨_, rfl, .inl ⟨rfl, _, .of g6⟩, _, rfl, a, dx, _, rfl, slt_same s56 h1, _, rfl, _, rfl, _, _, -1, ry, rfl, rfl, .of erb, by rw [erx]; exact atI_last rx0 ry, a, t, ns, ry, _, rfl, hl.same s56, hz, hry', hend, fun H7 lt xt s7 n7 e7 hxt => ?_⟩
          have g7 := s7 _ _ g6
          have hdl : ws.dropLast.length = wt.dropLast.length := paired_len (paired_drop r5)
          have hxl := paired_len hxt
          have hml : (wt.dropLast ++ torn ns (rowEnd ns p)).length ≤ 200 := by
            have := meas_len (wt.dropLast ++ torn ns (rowEnd ns p))
            omega
          rw [List.length_append] at hml
          refine ⟨lw, lt, ws.dropLast, xt, rfl, rfl, g7, e7, Nat.le_of_lt (small1000 (by omega)), ?_⟩
          have k8 := tk_list (o := .lst (ws.dropLast ++ xt)) g7
          have s8 : Same H (upd H7 lw (.lst (ws.dropLast ++ xt))) := fun b u z => by rw [upd_ne (ne_of_none z nlwH)]; exact (s56.trans s7) b u z
          have i5 : upd H7 lw (.lst (ws.dropLast ++ xt)) lw = some (.lst (ws.dropLast ++ xt)) := upd_same
          have i4 : upd H7 lw (.lst (ws.dropLast ++ xt)) lf = some (.lst vs) := by rw [upd_ne ne1]; exact s7 _ _ (s6 _ _ g4)
          have kk : TKeep H4 (upd H7 lw (.lst (ws.dropLast ++ xt))) := (k5.trans (.of (s6.trans s7))).trans k8
          have k78 : TKeep H6 (upd H7 lw (.lst (ws.dropLast ++ xt))) := (TKeep.of s7).trans k8
          have nw : NdAll (upd H7 lw (.lst (ws.dropLast ++ xt))) (ws.dropLast ++ xt) (wt.dropLast ++ torn ns (rowEnd ns p)) := paired_app (NdAll.keep kk (paired_drop r5)) (NdAll.keep k8 hxt)
          generalize upd H7 lw (.lst (ws.dropLast ++ xt)) = H8 at k8 s8 i5 i4 kk k78 nw ⊢
          have hlr := paired_len hrx
          have hsubs : ∀ q ∈ wt.dropLast ++ torn ns (rowEnd ns p), q ∈ subs 0 t := fun q hq => by
            rcases List.mem_append.mp hq with z | z
            · exact hsub q (List.dropLast_subset _ z)
            · exact subs_side t 0 _ q hend (torn_mem z)
          refine ⟨_, rfl, .inl ⟨rfl, _, .of i4⟩, _, rfl, rb, rxs, rfl, .inr (.of (k78 _ _ erb)), _, _, rfl, rfl, _, rfl, ?_⟩
          by_cases c2 : (row ns p).length > 1
          · rw [decide_eq_true (by omega)]
            refine iteT ⟨_, rfl, by show 1 ≤ sizeLine; decide, fun ln nln => ?_⟩
            refine ⟨lf, ln, vs, [.ref rb], rfl, rfl, same_new nln _ _ i4, upd_same, Nat.le_of_lt (small1000 (by simp; omega)), ?_⟩
            have s9 := same_new (o := .lst [V.ref rb]) nln
            have k9 := tk_list (o := .lst (vs ++ [.ref rb])) (s9 _ _ i4)
            have ka := (TKeep.of s9).trans k9
            have nlfn : lf ≠ ln := ne_of_none i4 nln
            refine ⟨_, _, _, _, _, rfl, by rw [if_pos c2] at hgo'; exact hgo', by omega, by simp; omega, fun b u z => ?_, upd_same, paired_app (stRow.all (kk.trans ka) r4) (.cons (stRow.keep (k78.trans ka) row6') .nil), ?_, NdAll.keep ka nw, hsubs, fun r hr => ?_⟩
            · rw [upd_ne (ne_of_none z nlf)]
              exact s9 _ _ (s8 b u z)
            · rw [upd_ne (Ne.symm ne1)]
              exact s9 _ _ i5
            · rcases List.mem_append.mp hr with z | z
              · exact hne r z
              · rw [List.mem_singleton.mp z]
                exact List.cons_ne_nil _ _
          · rw [decide_eq_false (by omega)]
            refine iteF ⟨by show 0 ≤ sizeLine; decide, fun ln nln => ?_⟩
            refine ⟨lf, ln, vs, [], rfl, rfl, same_new nln _ _ i4, upd_same, Nat.le_of_lt (small1000 (by simp; omega)), ?_⟩
            have s9 := same_new (o := .lst []) nln
            have k9 := tk_list (o := .lst (vs ++ [])) (s9 _ _ i4)
            have ka := (TKeep.of s9).trans k9
            rw [if_neg c2] at hgo'
            refine ⟨_, _, _, _, _, rfl, hgo', by omega, by simp; omega, fun b u z => ?_, upd_same, paired_app (stRow.all (kk.trans ka) r4) .nil, ?_, NdAll.keep ka nw, hsubs, fun r hr => ?_⟩
            · rw [upd_ne (ne_of_none z nlf)]
              exact s9 _ _ (s8 b u z)
            · rw [upd_ne (Ne.symm ne1)]
              exact s9 _ _ i5
            · rw [List.append_nil] at hr
              exact hne r hr
theorem dps_of {K : PySem.W.Frag} {H : Hp} : ∀ {vs : List V} {ds : List PyData}, Paired (Dp K H) vs ds → DpAll K H vs ds
  | _, _, .nil => .nil
  | _, _, .cons h t => .cons h (dps_of t)
theorem dps_to {K : PySem.W.Frag} {H : Hp} : ∀ {vs : List V} {ds : List PyData}, DpAll K H vs ds → Paired (Dp K H) vs ds
  | _, _, .nil => .nil
  | _, _, .cons h t => .cons h (dps_to t)
theorem noL_nd (p : Nd) : noL (ndD p) = true := rfl
theorem rows_ne (ns : List Nat) : ∀ (f : Nat) (w : List Nd) (fnd : List (List Nd)), (∀ r ∈ fnd, r ≠ []) → ∀ r ∈ rowsGo ns f w fnd, r ≠ []
  | 0, _, fnd, h => h
  | f + 1, w, fnd, h => by
    unfold rowsGo
    cases w.getLast? with
    | none => exact h
    | some p =>
      refine rows_ne ns f _ _ fun r hr => ?_
      rcases List.mem_append.mp hr with z | z
      · exact h r z
      · split at z
        · rw [List.mem_singleton.mp z]
          exact List.cons_ne_nil _ _
        · cases z
theorem rowsGo_len (ns : List Nat) : ∀ (f : Nat) (w : List Nd) (fnd : List (List Nd)), (rowsGo ns f w fnd).length ≤ fnd.length + f
  | 0, _, fnd => Nat.le_refl _
  | f + 1, w, fnd => by
    unfold rowsGo
    cases w.getLast? with
    | none => exact Nat.le_add_right _ _
    | some p =>
      refine Nat.le_trans (rowsGo_len ns f _ _) ?_
      rw [List.length_append]
      split <;> simp <;> omega
theorem rowsS_mem {ns : List Nat} {t : T} {r : List Nd} (h : r ∈ rowsS ns t) : r ≠ [] := by
  unfold rowsS at h
  rw [List.mem_mergeSort] at h
  exact rows_ne ns _ _ _ (fun r hr => absurd hr (by simp)) r h
theorem rowsS_len {ns : List Nat} {t : T} (ok : okT t) : (rowsS ns t).length ≤ 200 := by
  unfold rowsS rowsAll
  rw [List.length_mergeSort]
  have := rowsGo_len ns (2 * t.size) [(0, t)] []
  have := ok.2
  simp at *
  omega
theorem alike_part (p q p' q' : Nd) : PySem.W.alike (partD p q) (partD p' q') = true := by simp [partD, ndD, PySem.W.alike, PySem.W.alikeAll]
theorem srt_parts {l : List (List Nd)} (h : l.length ≤ 1000) (hne : ∀ r ∈ l, r ≠ []) : SrtOk (id : PyData → PyData) (l.map flD) := by
  have key : ∀ d ∈ l.map flD, ∃ p q, d = partD p q := fun d hd => by
    obtain ⟨r, hr, rfl⟩ := List.mem_map.mp hd
    cases r with
    | nil => exact absurd rfl (hne _ hr)
    | cons p r => exact ⟨p, _, rfl⟩
  refine ⟨fun d hd d' hd' => ?_, .inl fun d hd => ?_, by rw [List.length_map]; exact h, fun d hd => ?_⟩
  · rw [List.map_id] at hd hd'
    obtain ⟨p, q, rfl⟩ := key d hd
    obtain ⟨p', q', rfl⟩ := key d' hd'
    exact alike_part p q p' q'
  · rw [List.map_id] at hd
    obtain ⟨p, q, rfl⟩ := key d hd
    exact ⟨_, _, rfl⟩
  · obtain ⟨p, q, rfl⟩ := key d hd
    simp [partD, ndD, PyData.depth, PyData.depthAll]
theorem ok_Locked_parts (T : Txt K mg) : FnX w K mg base CX0 5 ("Locked", some "parts") (spParts K) := by
  have FW := ok_whole (w := w) (base := base) T
  have FR := ok_Locked_rows (w := w) (base := base) T
  refine fnr (ps := ["self"]) (T.fn 15) sc_Locked_parts ?ln ?bd (fun _ _ _ _ _ _ us hl => match us, hl with | [_], _ => rfl)
  case ln =>
    rintro _ _ _ _ ⟨a, t, ns, rfl, _⟩
    rfl
  case bd =>
    intro cdv A outer s H vs Q E hr h
    apply bodyN
    case h =>
      apply pss_cons
      · exact (ps_if (pt_cmpR op_eq (pe_callB call_len_seq (by rfl) T.free PySem.boot_len (pa_cons (SlX.pe_sl (pv 0)) pa_nil)) pe_int (nomark _)) (pss_one (ps_ret (pe_lst (pa_cons (pe_cR FW (hr.mono (by decide)) (by rfl) T.glo (T.kp (d := d_whole) 9) pass0 (pa_cons (SlX.pe_sl (pv 0)) pa_nil)) pa_nil)))) pss_nil)
      · exact (pss_one (ps_ret (pe_callB (call_srt (id : PyData → PyData) (fun H v d => Dp K H v d) hr.units) (by rfl) T.free boot_sorted (pa_cons (pe_lcR (own := [("row", 1)]) (g := gName 1) (tt := tYes) (by rfl) sc_Locked_parts.nd
            (pi_seq (SlX.pe_methSl0 (pv 0) (T.scls (x := "Locked")) (T.meth (x := "Locked") (m := "rows")) FR hr pass0)) (blkOk_by (own := [("row", 1)]) (N := N_Locked_parts) (sc := defScope s_Locked_parts) (by decide +kernel))
            (fun _ _ _ _ _ => pg_name (i := 1) sc_Locked_parts.nd rfl (.inl rfl)) (fun _ _ _ _ _ => pts_nil) (fun _ _ _ _ _ => pe_tup (pa_cons (pe_ix (ixT K rfl) (pv 1) pe_int (fun _ _ => rfl)) (pa_cons (pe_ix (ixT K rfl) (pv 1) (pe_un un_neg pe_int) (fun _ _ => rfl)) pa_nil)))) pa_nil))))
    case r =>
      obtain ⟨a, t, ns, rfl, hl, hz, ok, hQ⟩ := h
      have ⟨dx, ln, ta, h1, h2, h3⟩ := id hl
      refine ⟨_, rfl, a, _, dx, _, _, _, _, rfl, h1, T.scls (x := "Locked"), T.slot (x := "Locked") (f := "own_numbers") (i := 0), rfl, ln, _, rfl, .inl (.of h3), rfl, _, rfl, ?_⟩
      rw [List.length_map]
      by_cases c : ns.length = 0
      · rw [decide_eq_true (by rw [c]; rfl)]
        refine iteT ⟨_, rfl, a, _, dx, _, _, _, _, rfl, h1, T.scls (x := "Locked"), T.slot (x := "Locked") (f := "own_tree") (i := 1), rfl, ta, t, rfl, h2, fun H1 v1 s1 d1 => ?_⟩
        refine ⟨by show 1 ≤ sizeLine; decide, fun p np => hQ _ p _ (s1.trans (same_new np)) (s1.free np) upd_same ?_⟩
        unfold partsL
        rw [if_pos c]
        exact .one (d1.same (same_new np))
      · rw [decide_eq_false (fun z => c (by
          have z' : ((ns.length : Nat) : Int) = 0 := V.int.inj z
          omega))]
        refine iteF ⟨_, rfl, a, dx, _, rfl, h1, a, t, ns, rfl, hl, hz, ok, fun H1 l xs s1 n1 e1 hx => ?_⟩
        have hlx := paired_len hx
        have hrl := rowsS_len (ns := ns) ok
        refine ⟨l, rfl, comp_seq (.inl (.of e1)) (fun i => ((rowsS ns t)[i]?).map flD) (fun D i x H2 nD hx2 hi acc => ?_) fun D H2 acc => ?_⟩
        · obtain ⟨r, hr, b, rxs, rfl, hb, hrx⟩ := paired_get hx hx2
          have hne := rowsS_mem (List.mem_of_getElem? hr)
          have hb2 := acc.1 _ _ hb
          have hrx2 := NdAll.keep (TKeep.of acc.1) hrx
          obtain ⟨rx0, ry, erx, hry⟩ := paired_last hne hrx2
          cases r with
          | nil => exact absurd rfl hne
          | cons p0 r0 =>
            obtain ⟨y0, ry0, e0, hy0⟩ : ∃ y0 ry0, rxs = y0 :: ry0 ∧ NdAt H2 y0 p0 := by
              cases hrx2 with
              | cons h t => exact ⟨_, _, rfl, h⟩
            refine ⟨rfl, yes_t ⟨_, rfl, _, _, 0, y0, rfl, rfl, .of hb2, by rw [e0]; exact atI_nat (j := 0) rfl, _, rfl, _, rfl, _, _, -1, ry, rfl, rfl, .of hb2, by rw [erx]; exact atI_last rx0 ry, by show 2 ≤ sizeLine; decide, fun p np => ?_⟩⟩
            have sn := same_new (o := .tup [y0, ry]) np
            refine (acc.same sn).pushN (d := flD (p0 :: r0)) (by show ((rowsS ns t)[i]?).map flD = _; rw [hr]; rfl) rfl ?_ (small1000 (by omega))
            exact .tupM upd_same (.cons ((nd_dp hy0).same sn) (.cons ((nd_dp hry).same sn) .nil))
        · obtain ⟨items, eD, hI⟩ := acc.list
          rw [hlx, fm_map] at hI
          refine ⟨D, items, _, rfl, .inl (.of eD), dps_to hI, fun x b h => h, srt_parts (by omega) fun r hr => rowsS_mem hr, fun p outs np ho => hQ _ p outs ((s1.trans acc.1).trans (same_new np)) ((s1.trans acc.1).free np) upd_same ?_⟩
          unfold partsL
          rw [if_neg c]
          exact DpAll.same (same_new np) (dps_of ho)
theorem inV_str (x : Str) : ∀ o : List Str, inV (.str x) (o.map V.str) = isOut o x
  | [] => rfl
  | y :: o => by
    have ih := inV_str x o
    unfold inV at ih ⊢
    rw [List.map_cons, List.any_cons, ih]
    unfold isOut
    by_cases e : y = x
    · subst e
      simp [eqV]
    · have e1 : eqV (.str y) (.str x) = false := by show (y == x) = false; exact beq_eq_false_iff_ne.mpr e
      have e2 : ¬ x = y := fun z => e z.symm
      simp [e1, e2]
theorem flat_strs : ∀ o : List Str, (o.map V.str).all flatV = true
  | [] => rfl
  | x :: o => by rw [List.map_cons, List.all_cons, flat_strs o]; rfl
theorem outs_tup {H : Hp} {v : V} {o : List Str} (h : Dp K H v (outD o)) : ∃ a, v = .ref a ∧ SqT K H a (o.map V.str) := by
  obtain ⟨a, xs, rfl, hs, hx⟩ := h.tupI
  rw [DpAll.strs hx] at hs
  exact ⟨a, rfl, hs⟩
theorem nums_fm (t : T) (o : List Str) : (List.range t.leaves.length).filterMap (fun i => if isOut o (t.leaves.getD i Str.empty) = true then some (PyData.int (i : Int)) else none) = (nums t o).map fun (j : Nat) => PyData.int (j : Int) := by
  unfold nums
  generalize List.range t.leaves.length = l
  induction l with
  | nil => rfl
  | cons x xs ih =>
    cases h : isOut o (t.leaves.getD x Str.empty) <;> simp only [List.filterMap_cons, List.filter_cons, h, ih, if_true, List.map_cons] <;> simp
theorem slH_over {H : Hp} {a C dx b : Addr} {vs vs' : List (Option V)} {u : HO} (h2 : H dx = some (.xd [])) (n : b ≠ a) (e : H b = some u) : SlX.slH H a C dx vs' b = some u := by
  unfold SlX.slH
  rw [upd_ne n]
  by_cases c : b = dx
  · rw [c, upd_same]
    rw [c, h2] at e
    exact e
  · rw [upd_ne c]
    exact e
theorem TreeAt.over {H : Hp} {a C dx x : Addr} {vs vs' : List (Option V)} {t : K90.T} (h1 : H a = some (SlX.SlO a C dx vs)) (h2 : H dx = some (.xd [])) (n : x ≠ a) (h : TreeAt K H x t) : TreeAt K (SlX.slH H a C dx vs') x t := by
  obtain ⟨tdx, lb, sd, hd, kvs, q1, q2, q3, q4, q5⟩ := h
  have oth : ∀ b u, H b = some u → (∀ φ, u ≠ .ext φ) → SlX.slH H a C dx vs' b = some u := fun b u e hu => slH_over (vs := vs) h2 (fun z => by
    rw [z, h1] at e
    exact hu _ (Option.some.inj e).symm) e
  have tk : TKeep H (SlX.slH H a C dx vs') := fun b xs e => oth b _ e (fun _ z => nomatch z)
  refine ⟨tdx, lb, sd, hd, kvs, ?_, oth _ _ q2 (fun _ z => nomatch z), oth _ _ q3 (fun _ z => nomatch z), fun p hp => ?_, q5.keep tk⟩
  · rcases q1 with ⟨_, z⟩ | ⟨z1, z2⟩
    · cases z
    · exact .inr ⟨slH_over (vs := vs) h2 n z1, oth _ _ z2 (fun _ z => nomatch z)⟩
  · obtain ⟨y, ey, hy⟩ := q4 p hp
    exact ⟨y, ey, hy.keep tk⟩
theorem ints_nat {H : Hp} : ∀ {vs : List V} {ns : List Nat}, DpAll K H vs (ns.map fun (j : Nat) => PyData.int (j : Int)) → vs = ns.map fun (j : Nat) => V.int (j : Int)
  | [], [], _ => rfl
  | _ :: _, [], h => by cases h
  | [], _ :: _, h => by cases h
  | v :: vs, x :: xs, h => by
    cases h with
    | cons h r => rw [h.intI, ints_nat r]; rfl
theorem ok_Locked_init (T : Txt K mg) : FnX w K mg base CX0 24 ("Locked", some "__init__") (spLockInit K) := by
  have FI := ok_Tree_init (w := w) (base := base) T
  have FB := ok_Tree_boxes (w := w) (base := base) T
  have FT := ok_tupled (w := w) (base := base) T 20
  refine fnr (ps := ["self", "tree", "out"]) (T.fn 10) sc_Locked_init ?ln ?bd (fun _ _ _ _ _ _ us hl => match us, hl with | [_, _, _], _ => rfl)
  case ln =>
    rintro _ _ _ _ ⟨a, dx, v, vo, t, o, rfl, _⟩
    rfl
  case bd =>
    intro cdv A outer s H vs Q E hr h
    apply bodyN
    case h =>
      apply pss_cons
      · exact (SlX.ps_sl (pv 0) (StX.pe_makeR (T.mkr (x := "Tree")) FI (hr.mono (by decide)) (by rfl) T.glo pass0 (pa_cons (pv 1) pa_nil)))
      · exact (pss_one (SlX.ps_sl (pv 0) (pe_lcR (own := [("number", 3), ("box", 4)]) (by rfl) sc_Locked_init.nd
            (pi_enumT (by rfl) T.free (pa_cons (SlX.pe_methSl0 (SlX.pe_sl (pv 0)) (T.scls (x := "Tree")) (T.meth (x := "Tree") (m := "boxes")) FB (hr.mono (by decide)) pass0) pa_nil)) (blkOk_by (own := [("number", 3), ("box", 4)]) (N := N_Locked_init) (sc := defScope s_Locked_init) (by decide +kernel))
            (fun _ _ _ _ _ => pgTup (n := 2) K rfl rfl (pgs_cons (pg_name (i := 3) sc_Locked_init.nd rfl (.inl rfl)) (pgs_cons (pg_name (i := 4) sc_Locked_init.nd rfl (.inl rfl)) pgs_nil)))
            (fun _ _ _ _ _ => pts_one (pt_cmpR (opIn K rfl) (pv 4) (pe_cR FT (hr.mono (by decide)) (by rfl) T.glo (T.kp (d := d_tupled) 0) pass0 (pa_cons (pv 2) pa_nil)) (by rfl))) (fun _ _ _ _ _ => pv 3))))
    case r =>
      obtain ⟨a, dx, v, vo, t, o, rfl, hn, ht, ho, hQ⟩ := h
      obtain ⟨d, hd, hsm, htu, ok⟩ := ht
      obtain ⟨do_, hdo, hsmo, htuo⟩ := ho
      refine ⟨_, rfl, fun x xdx nx nxd nex => ?_⟩
      have s1 : Same H (upd (upd H xdx (.own x)) x (.ins (CT K) xdx [])) := new_same nx nxd
      refine ⟨x, xdx, v, d, t, rfl, .mk nex, hd.same s1, hsm, htu, ok, fun H1 k1 t1 => ⟨rfl, ?_⟩⟩
      have s2 : Same H H1 := fun b u e => k1 b u (s1 b u e) (by simp [ne_of_none e nx, ne_of_none e nxd])
      refine ⟨_, rfl, a, _, dx, _, [], _, rfl, slt_same s2 hn.slt, T.scls (x := "Locked"), T.slot (x := "Locked") (f := "own_tree") (i := 1), ?_⟩
      have ev : SlX.putS 1 (.ref x) ([] : List (Option V)) = [none, some (.ref x)] := rfl
      rw [ev]
      have hsl : SlX.Slt (SlX.slH H1 a (CL K) dx [none, some (.ref x)]) a (CL K) dx [none, some (.ref x)] := SlX.slH_slt hn.2.2
      have k3 : Keep [a, dx] H (SlX.slH H1 a (CL K) dx [none, some (.ref x)]) := (Keep.of s2 _).slH (.inl (by simp)) (.inl (by simp))
      have t3 : TreeAt K (SlX.slH H1 a (CL K) dx [none, some (.ref x)]) x t := by
        obtain ⟨tdx, lb, sd, hd', kvs, q1, q2, q3, q4, q5⟩ := t1
        have n1 := s2 _ _ hn.1
        have n2 := s2 _ _ hn.2.1
        have oth : ∀ b u, H1 b = some u → (∀ C dx, u ≠ .ins C dx []) → (∀ y, u ≠ .own y) → SlX.slH H1 a (CL K) dx [none, some (.ref x)] b = some u := fun b u e h1 h2 => by
          rw [SlX.slH_ne (fun z => ?_) (fun z => ?_)]
          · exact e
          · rw [z, n1] at e
            exact h1 _ _ (Option.some.inj e).symm
          · rw [z, n2] at e
            exact h2 _ (Option.some.inj e).symm
        have tk : TKeep H1 (SlX.slH H1 a (CL K) dx [none, some (.ref x)]) := fun b xs e => oth b _ e (fun _ _ z => nomatch z) (fun _ z => nomatch z)
        refine ⟨tdx, lb, sd, hd', kvs, ?_, oth _ _ q2 (fun _ _ z => nomatch z) (fun _ z => nomatch z), oth _ _ q3 (fun _ _ z => nomatch z) (fun _ z => nomatch z), fun p hp => ?_, q5.keep tk⟩
        · rcases q1 with ⟨_, z⟩ | ⟨z1, z2⟩
          · cases z
          · exact .inr ⟨oth _ _ z1 (fun _ _ z => by unfold SlX.SlO at z; cases z) (fun _ z => by unfold SlX.SlO at z; cases z), oth _ _ z2 (fun _ _ z => nomatch z) (fun _ z => nomatch z)⟩
        · obtain ⟨y, ey, hy⟩ := q4 p hp
          exact ⟨y, ey, hy.keep tk⟩
      have hdo3 := hdo.keepS k3 hn.noSeq
      have n3a : ∃ u, SlX.slH H1 a (CL K) dx [none, some (.ref x)] a = some u := ⟨_, upd_same⟩
      have n3d : ∃ u, SlX.slH H1 a (CL K) dx [none, some (.ref x)] dx = some u := ⟨_, by unfold SlX.slH; rw [upd_ne hn.2.2, upd_same]⟩
      generalize SlX.slH H1 a (CL K) dx [none, some (.ref x)] = H3 at hsl k3 t3 hdo3 n3a n3d ⊢
      have t3' := t3
      obtain ⟨tdx, lb, sd, hd', kvs, q1, _⟩ := t3'
      refine ⟨_, rfl, a, _, dx, _, _, _, _, rfl, hsl, T.scls (x := "Locked"), T.slot (x := "Locked") (f := "own_tree") (i := 1), rfl, x, tdx, _, rfl, q1, x, t, rfl, t3, fun H4 v4 s4 h4 => ?_⟩
      obtain ⟨b4, rfl, hs4⟩ := outs_tup h4
      have hlen := ok.2
      rw [← t.len_leaves] at hlen
      refine ⟨b4, _, rfl, hs4, comp_walk (K := K) walk_enumT (fun i => if isOut o (t.leaves.getD i Str.empty) = true then some (PyData.int (i : Int)) else none) (fun H s => same_tup s hs4) (fun D i y H5 H6 nD hi acc hy => ?_) fun D H5 acc => ?_⟩
      · rw [List.length_map] at hi
        obtain ⟨tp, vi, vx, rfl, ntp, rfl, ei, ex⟩ := hy
        cases ei
        have exs : vx = V.str (t.leaves.getD i Str.empty) := by
          have ex : (t.leaves.map V.str)[i]? = some vx := ex
          rw [List.getElem?_map, List.getElem?_eq_getElem hi] at ex
          rw [List.getD_eq_getElem?_getD, List.getElem?_eq_getElem hi]
          exact (Option.some.inj ex).symm
        subst exs
        have sn := same_new (o := .tup [.int (i : Nat), .str (t.leaves.getD i Str.empty)]) ntp
        have acc2 := acc.same sn
        refine ⟨tp, _, rfl, .of upd_same, rfl, _, _, rfl, _, _, rfl, rfl, rfl, ?_⟩
        have sAll := s4.trans acc2.1
        refine ⟨_, rfl, _, rfl, vo, do_, rfl, hdo3.same sAll, hsmo, fun H7 v7 s7 h7 => ?_⟩
        rw [htuo] at h7
        obtain ⟨b7, rfl, hs7⟩ := outs_tup h7
        refine ⟨b7, _, rfl, .inr hs7, rfl, flat_strs o, _, rfl, ?_⟩
        have ein : (if false = true then !inV (V.str (t.leaves.getD i Str.empty)) (o.map V.str) else inV (V.str (t.leaves.getD i Str.empty)) (o.map V.str)) = isOut o (t.leaves.getD i Str.empty) := by
          rw [if_neg Bool.false_ne_true]
          exact inV_str _ o
        rw [ein]
        have acc3 := acc2.same s7
        cases c : isOut o (t.leaves.getD i Str.empty) with
        | true => exact iteT ⟨_, rfl, acc3.pushN (d := PyData.int (i : Int)) (by rw [c]; rfl) rfl (.int _) (small1000 (by omega))⟩
        | false => exact iteF (acc3.skip (by rw [c]; rfl))
      · obtain ⟨items, eD, hI⟩ := acc.list
        rw [List.length_map, nums_fm] at hI
        have ei := ints_nat hI
        subst ei
        have s45 := s4.trans acc.1
        have Da : D ≠ a := fun z => by
          obtain ⟨u, e⟩ := n3a
          have := s4 _ _ e
          rw [← z, acc.2.1] at this
          cases this
        have Dd : D ≠ dx := fun z => by
          obtain ⟨u, e⟩ := n3d
          have := s4 _ _ e
          rw [← z, acc.2.1] at this
          cases this
        have hsl5 := slt_same s45 hsl
        refine ⟨_, rfl, a, _, dx, _, _, _, rfl, hsl5, T.scls (x := "Locked"), T.slot (x := "Locked") (f := "own_numbers") (i := 0), ?_⟩
        have ev : SlX.putS 0 (.ref D) [none, some (V.ref x)] = [some (.ref D), some (.ref x)] := rfl
        rw [ev]
        refine hQ _ ((k3.trans (.of s45 _)).slH (.inl (by simp)) (.inl (by simp))) ⟨dx, D, x, SlX.slH_slt hn.2.2, ?_, by rw [SlX.slH_ne Da Dd]; exact eD⟩
        rcases hsl5 with ⟨_, z⟩ | ⟨z1, z2⟩
        · cases z
        · exact TreeAt.over z1 z2 (fun z => by rw [z, hn.1] at nx; cases nx) (t3.same s45)
theorem ok_least_header (T : Txt K mg) : FnX w K mg base CX0 26 ("least_header", none) (spLeast K) := by
  have FI := ok_Locked_init (w := w) (base := base) T
  have FP := ok_Locked_parts (w := w) (base := base) T
  refine fnr (ps := ["tree", "out"]) (T.fn 16) sc_least_header ?ln ?bd (fun _ _ _ _ _ _ us hl => match us, hl with | [_, _], _ => rfl)
  case ln =>
    rintro _ _ _ _ ⟨v, vo, t, o, rfl, _⟩
    rfl
  case bd =>
    intro cdv A outer s H vs Q E hr h
    apply bodyN
    case h => exact pss_one (ps_ret (pe_callTy call_tuple_of (by rfl) T.free boot_tuple (pa_cons (SlX.pe_methSl0 (StX.pe_makeR (T.mkr (x := "Locked")) FI hr (by rfl) T.glo pass0 (pa_cons (pv 0) (pa_cons (pv 1) pa_nil))) (T.scls (x := "Locked")) (T.meth (x := "Locked") (m := "parts")) FP (hr.mono (by decide)) pass0) pa_nil)))
    case r =>
      obtain ⟨v, vo, t, o, rfl, ht, ho, hQ⟩ := h
      refine ⟨_, rfl, _, rfl, fun x dx nx nd ne => ?_⟩
      have s1 : Same H (upd (upd H dx (.own x)) x (.ins (CL K) dx [])) := new_same nx nd
      obtain ⟨d, hd, hsm, htu, ok⟩ := id ht
      have hlen := ok.2
      rw [← t.len_leaves] at hlen
      refine ⟨x, dx, v, vo, t, o, rfl, .mk ne, ht.same s1, ho.same s1, fun H1 k1 l1 => ⟨rfl, ?_⟩⟩
      have s2 : Same H H1 := fun b u e => k1 b u (s1 b u e) (by simp [ne_of_none e nx, ne_of_none e nd])
      have l1' := l1
      obtain ⟨dx', ln, ta, h1, _⟩ := l1'
      have hnz : (nums t o).length ≤ 1000 := by
        unfold nums
        have := List.length_filter_le (fun j => isOut o (t.leaves.getD j Str.empty)) (List.range t.leaves.length)
        rw [List.length_range] at this
        omega
      refine ⟨x, dx', _, rfl, h1, x, t, nums t o, rfl, l1, hnz, ok, fun H2 l xs s3 n3 e3 hx => ?_⟩
      exact ⟨l, xs, rfl, .inl ⟨.of e3, fun p np => hQ _ _ ((s2.trans s3).trans (same_new np)) (.tupM upd_same (DpAll.same (same_new np) hx))⟩⟩
end
end K90
end

section
set_option Elab.async false
set_option linter.all false
set_option maxRecDepth 100000
set_option maxHeartbeats 4000000
/-! exceptions whose __init__ says super().__init__(x); self.f = x -/
namespace K90
open PySem PySem.W PySem.Calls PySem.Spec PyProof.Rows
section
open Builtin Builtin.ObjectAttr
variable {prog : Program} {w : World} {A : Around} {E : Value → Shared → Prop} {R : Result → Shared → Prop} {hp : Heap} {g : Array GenState} {d : Drawn} {t : Nat} {os : OsState}
/-- the first store into an exception -/
theorem osa_first {K : Frag} {B : String} {bmB : List Value} {name : Str} {tk : Tok} {v : Value} {x C t0 : Addr} (SF : StoreFacts B bmB "object.__setattr__" "object") (X : K.In hp) (hx : hp.get? x = some (excObj C t0 none .none)) (hov : excOver K C bmB = true) (hh : hasDictIn K C = true) (ha : findIn K (.ref C) name = some none)
    (hq : ∀ h' tk' dx, (∀ b o, b ≠ x → hp.get? b = some o → h'.get? b = some o) → hp.objs.size ≤ dx → dx ≠ x → h'.get? x = some (excObj C t0 (some dx) .none) →
      h'.Ns1 dx (fun y => if y = name then some v else none) → R (.ok (.ret .none)) ⟨h', g, d, tk', os⟩) :
    codeAny (model prog w) A (.call (.builtin "object.__setattr__") ⟨[.ref x, .str name tk, v], []⟩) R ⟨hp, g, d, t, os⟩ := by
  have I : InstAt hp x (excObj C t0 none .none) C none := ⟨hx, rfl, rfl, trivial⟩
  have hxs : x ≠ hp.objs.size := Nat.ne_of_lt (Heap.lt_size hx)
  have htk : takerIn K C name = some none := by
    unfold takerIn
    rw [ha]
    rfl
  obtain ⟨cd, hcd, hd'⟩ := any_some hh
  have hcls : Looks (model prog w) hp (classData C) cd := looks_clsIn X hcd
  refine osa_openX (s := ⟨hp, g, d, t, os⟩) (od := none) SF X I hov htk fun b => ?_
  show wpAny _ _ (storeInOwnDict (.ref x) (.ref C) (.str name tk) name v b) _ _ _
  obtain ⟨nm, bs, mro, ns, qn, hd, sn, sb, ab, col, del⟩ := cd
  dsimp only at hd'
  subst hd'
  unfold storeInOwnDict ownDictForStores
  repeat (first | with_reducible refine HandSPX.store_in_new ?_ ?_ | with_reducible refine wpAny_loadPart_at hx ?_ | with_reducible refine hcls.at ?_ | wp_step)
  · exact ⟨_, #[], _, (Heap.get?_update_ne _ _ _ _ hxs.symm).trans (Heap.get?_push_at rfl rfl), rfl, fun e he => absurd he (by simp), fun _ => rfl⟩
  · intro h' tk' hn' hs
    have hx₁ : (hp.push { cls := .type "dict", data := .dict #[] }).get? x = some (excObj C t0 none .none) := Heap.get?_push_of_some _ hx
    refine hq h' tk' hp.objs.size (fun b o hb ho => ?_) (Nat.le_refl _) hxs.symm ?_ hn'
    · exact (hs.2 b (Nat.ne_of_lt (Heap.lt_size ho))).trans ((Heap.get?_update_ne _ _ _ _ hb).trans (Heap.get?_push_of_some _ ho))
    · exact (hs.2 x hxs).trans (Heap.get?_update_self _ hx₁ rfl)
end
/-- what of the written part such a class must have -/
structure SupC (prog : Program) (K : Frag) (C : Addr) (fld : Str) (B newId initId : String) (bmB : List Value) : Prop where
  new : excInitIn K C bmB newId = true
  over : excOver K C bmB = true
  sa : findIn K (.ref C) "__setattr__" = some (some (.builtin "object.__setattr__"))
  fl : findIn K (.ref C) fld = some none
  hd : hasDictIn K C = true
  sup : ks_superIn K C C "__init__" = some (some (.builtin initId))
  op : nsIn K cStatics "thirdparty.any" = some none
  sB : subIn K (.ref C) (.type B) = some true
  sC : subIn K (.ref C) (.ref C) = some true
  FB : ExcBaseFacts B newId initId bmB
  KF : KxsFacts B initId
  SF : StoreFacts B bmB "object.__setattr__" "object"
/-- its __init__ -/
structure SupI (prog : Program) (K : Frag) (C fI : Addr) (fld arg : Str) (fd : FuncData) (st1 st2 : Stmt) : Prop where
  at_ : ∃ of, K.lookup fI = some of ∧ of.data = .func fd
  body : fd.body = .stmts [st1, st2]
  glob : fd.globals = mainGlobals
  blt : fd.builtins = builtinsNs
  clo : ∃ c oc, fd.closure = [(("__class__" : Str), c)] ∧ K.lookup c = some oc ∧ oc.data = .cell (some (.ref C))
  code : ∃ cc oc vs file tf, fd.code = .ref cc ∧ K.lookup cc = some oc ∧ oc.data = .fields vs ∧ vs[2]? = some (.str file tf) ∧ ((prog.main.file : Str) == file) = true
  crec : codeIn K fd.code fd.qualname = true
  hd : ∃ ar, (fd.params.posonlyargs ++ fd.params.args).head? = some ar ∧ ar.arg = "self"
  bind : ∀ u v, bindArgs fd ⟨[u, v], []⟩ = pure [(("self" : Str), u), (arg, v)]
  kind : fd.scope.kind = .function
  co : fd.scope.isCoroutine = false
  gen : fd.scope.isGenerator = false
  cell : ∀ x ∈ fd.scope.names, x.2 ≠ .cell
  s1 : fd.scope.names.lookup ("super" : Str) = some .globalImplicit
  s2 : fd.scope.names.lookup ("__class__" : Str) = some .free
  s3 : fd.scope.names.lookup ("self" : Str) = some .local
  s4 : fd.scope.names.lookup arg = some .local
  ne : arg ≠ "self"
  st1e : ∃ p0 p1 p2 p3 p4 p5, st1 = .Expr (.Call (.Attribute (.Call (.Name "super" p0) [] [] p1) "__init__" p2) [.Name arg p3] [] p4) p5 ∧ ∀ env : Env, ∃ pl : Sem Bool, eval (.Call (.Attribute (.Call (.Name "super" p0) [] [] p1) "__init__" p2) [.Name arg p3] [] p4) env = (do
      let ov ← attributeBase (.Call (.Name "super" p0) [] [] p1) "__init__" env (eval (.Call (.Name "super" p0) [] [] p1) env)
      standAt p2.atName
      let (f, first) ← holding [ov] (getMethod ov "__init__" pl)
      callWith p4 f first (backTo p4 (starEach [.Name arg p3] env)) [])
  st2e : ∃ p6 p7 p8 p9, st2 = .Assign [.Attribute (.Name "self" p6) fld p7] (.Name arg p8) p9
  ad : (arg == ("__debug__" : Str)) = false
  top : (prog.main.scope.names.lookup ("super" : Str)).isSome = false
section
variable {prog : Program} {w : World} {A : Around} {R : Result → Shared → Prop} {s : Shared} {K : Frag} {C fI x t0 : Addr} {fld arg : Str} {fd : FuncData} {st1 st2 : Stmt} {B newId initId : String} {bmB : List Value} {hp : Heap} {mg : Str → Option Value} {v : Value}
theorem init_run (S : SupC prog K C fld B newId initId bmB) (T : SupI prog K C fI fld arg fd st1 st2) (Xp : K.In hp) (hxn : hp.get? x = none) (k0 : ∀ b o, hp.get? b = some o → s.heap.get? b = some o) (hx : s.heap.get? x = some (excObj C t0 none .none)) (room : A.depth < recursionLimit) (hlim : s.heap.NoLimit)
    (hg : hp.Ns mainGlobals mg) (hms : mg ("super" : Str) = none) (hb : ∃ mb, hp.Ns builtinsNs mb ∧ mb ("super" : Str) = some (.type "super"))
    (hq : ∀ h' tk dx t1, (∀ b o, hp.get? b = some o → h'.get? b = some o) → s.heap.objs.size ≤ dx → dx ≠ x → h'.get? x = some (excObj C t1 (some dx) .none) → h'.Ns1 dx (fun y => if y = fld then some v else none) → R (.ok (.ret .none)) { s with heap := h', toks := tk }) :
    codeAny (model prog w) A (.call (.ref fI) ⟨[.ref x, v], []⟩) R s := by
  have X := Xp.keeps k0
  obtain ⟨of, lof, hof⟩ := T.at_
  obtain ⟨c, oc, hclo, lc, hc⟩ := T.clo
  obtain ⟨cc, occ, vs, file, tf, hcode, lcc, hoc, hvs, hfile⟩ := T.code
  obtain ⟨ar, hhd, har⟩ := T.hd
  obtain ⟨p0, p1, p2, p3, p4, p5, e1, hev⟩ := T.st1e
  obtain ⟨p6, p7, p8, p9, e2⟩ := T.st2e
  obtain ⟨mb, hb1, hb2⟩ := hb
  have hxC : x ≠ C := fun z => by
    obtain ⟨cd, hcd, _⟩ := any_some S.hd
    unfold clsIn at hcd
    cases q : K.lookup C with
    | none => rw [q] at hcd; cases hcd
    | some o =>
      have := Xp _ _ q
      rw [← z, hxn] at this
      cases this
  refine ks_codeAny_call_defAt (body := [st1, st2]) room (X _ _ lof) hof hlim (codeRec_of X T.crec) T.body (.of_eq (T.bind _ _)) T.cell (fun y hy => ?_) (fun h₁ hns k1 => ?_) T.co T.gen T.kind
  · rcases List.mem_cons.mp hy with z | z
    · rw [z]; exact T.s3
    · rw [List.mem_singleton.mp z]; exact T.s4
  generalize henv : callEnv fd s.heap.objs.size fI = env
  have ek : env.scope = fd.scope := by rw [← henv]; rfl
  have ekind : env.scope.kind = .function := by rw [ek]; exact T.kind
  have eloc : env.locals = s.heap.objs.size := by rw [← henv]; rfl
  have eg : env.globals = mainGlobals := by rw [← henv]; exact T.glob
  have eb : env.builtins = builtinsNs := by rw [← henv]; exact T.blt
  have ecl : env.cells = [(("__class__" : Str), c)] := by rw [← henv]; exact hclo
  have efn : env.func = some fI := by rw [← henv]; rfl
  have ecd : env.code = .ref cc := by rw [← henv]; exact hcode
  have hns : h₁.Ns env.locals (fun y => [(("self" : Str), Value.ref x), (arg, v)].reverse.lookup y) := by rw [eloc]; exact hns
  have m1 : (fun y => [(("self" : Str), Value.ref x), (arg, v)].reverse.lookup y) ("self" : Str) = some (Value.ref x) := by
    show List.lookup ("self" : Str) [(arg, v), (("self" : Str), Value.ref x)] = _
    have e : (("self" : Str) == arg) = false := beq_eq_false_iff_ne.mpr (Ne.symm T.ne)
    simp [List.lookup, e]
  have m2 : (fun y => [(("self" : Str), Value.ref x), (arg, v)].reverse.lookup y) arg = some v := by
    show List.lookup arg [(arg, v), (("self" : Str), Value.ref x)] = _
    simp [List.lookup]
  generalize (fun y => [(("self" : Str), Value.ref x), (arg, v)].reverse.lookup y) = m at hns m1 m2
  have K1 : ∀ b o, hp.get? b = some o → h₁.get? b = some o := fun b o e => k1 b o (k0 b o e)
  have X1 := Xp.keeps K1
  rw [e1, e2]
  have kOf : ∀ y k, fd.scope.names.lookup y = some k → env.kindOf y = some k := fun y k e => by
    show env.scope.names.lookup y = some k
    rw [ek]
    exact e
  obtain ⟨nm, N', qn, bs, bm, hdct, sn, sub, ab, col, dd, q0, q1, q2, q3, q5, hC, hT⟩ := excInit_of X1 S.new
  have hx1 : h₁.get? x = some (excObj C t0 none .none) := k1 _ _ hx
  refine ks_wpAt_execs_cons (ks_wpAt_Expr_any ?_ (by unfold interactive; rw [ekind]; rfl) (by rfl))
  obtain ⟨pl, hpl⟩ := hev env
  refine ks_wpAt_MethodCall (pl := pl) ?_ hpl
  refine ks_wpAt_super_base (kOf _ _ T.s1) (kOf _ _ T.s2) rfl efn (X1 _ _ lof) hof hhd ecd (X1 _ _ lcc) hoc hvs hfile T.top ?_
  rw [loadName_read ekind (kOf _ _ T.s1)]
  refine Calls.loadGlobal_builtin (mg := mg) (mb := mb) (by rw [eg]; exact hg.keeps K1) hms (by rw [eb]; exact hb1.keeps K1) hb2 ⟨rfl, ?_⟩
  refine wpAny_loadName_free ekind (kOf _ _ T.s2) (by rw [ecl]; rfl) ⟨oc, X1 _ _ lc, hc⟩ ?_
  rw [har]
  refine wpAny_loadName_local ekind (kOf _ _ T.s3) hns m1 ?_
  refine ks_wpAny_isType_cls hC rfl ⟨rfl, ?_⟩
  refine ks_wpAny_call_super hC rfl hx1 rfl (fun c z => nomatch z) (looks_subIn X1 S.sC) fun h₂ so2 k2 => ?_
  have K2 : ∀ b o, hp.get? b = some o → h₂.get? b = some o := fun b o e => k2 b o (K1 b o e)
  have X2 := Xp.keeps K2
  have hx2 := k2 _ _ hx1
  have I2 : InstAt h₂ x (excObj C t0 none .none) C none := ⟨hx2, rfl, rfl, trivial⟩
  obtain ⟨cd, hcd⟩ : ∃ cd, clsIn K C = some cd := by
    obtain ⟨cd, q, _⟩ := any_some S.hd
    exact ⟨cd, q⟩
  have hm := S.sup
  unfold ks_superIn at hm
  rw [hcd] at hm
  refine kxs_getMethod S.KF so2 (looks_opaque X2 S.op) (l₀ := cd.mro) (fun A Q E s k q => wpAny_bind ((looks_clsIn X2 hcd) A _ E s k (wpAny_pure q))) rfl X2 hm (I2.type.andThen (looks_subIn X2 S.sB)) hxC (by decide) ?_
  have ns2 : h₂.Ns env.locals m := hns.keeps k2
  refine kxs_callWith (i := initId) (x := x) rfl (evalArgs_plain (args_cons (wpAny_Name (wpAny_loadName_local ekind (kOf _ _ T.s4) (ns2.push _) m2 (args_nil ⟨Heap.get?_push_at rfl rfl, ?_⟩)) T.ad)))
  have hu : (h₂.push (kxs_mw initId x)).get? h₂.objs.size = some (kxs_mw initId x) := Heap.get?_push_at rfl rfl
  have k3 : ∀ b o, h₂.get? b = some o → (h₂.push (kxs_mw initId x)).get? b = some o := fun b o e => Heap.get?_push_of_some _ e
  generalize h₂.push (kxs_mw initId x) = h₃ at hu k3 ⊢
  have hC3 := k3 _ _ (k2 _ _ hC)
  have hx3 := k3 _ _ hx2
  have K3 : ∀ b o, hp.get? b = some o → h₃.get? b = some o := fun b o e => k3 b o (K2 b o e)
  have ns3 := ns2.keeps k3
  have oneOk : [v].length ≤ sizeLine := by show 1 ≤ sizeLine; decide
  refine wpAny_call (codeAny_of_tree ?_)
  show wpAny _ _ (callAny (.ref h₂.objs.size) ⟨[v], []⟩) _ _ _
  simp only [callAny]
  refine wpAny_bind (wpAny_load hu ?_)
  simp only [kxs_mw, show (Value.type "method-wrapper" == Value.type "method" || Value.type "method-wrapper" == Value.type "builtin_function_or_method" || Value.type "method-wrapper" == Value.type "method-wrapper") = true by decide, if_true]
  refine KFB.if_so (by decide) ?_
  refine wpAny_bind (check_bound_init S.FB.toExcCallFacts hC3 hx3 rfl ?_)
  refine wpAny_bind (wpAny_pure (wpAny_pure ?_))
  refine ⟨plainId_quiet S.FB.init.plain _, codeAny_builtin S.FB.initEntry ?_⟩
  refine exc_init_tree (cls := .ref C) (t0 := t0) (dv := none) (c2 := .none) (c3 := .none) (b4 := .bool false) hx3 oneOk fun h₄ k4 hx4 ht4 => ?_
  have neX : ∀ {b : Addr} {o : Obj}, hp.get? b = some o → b ≠ x := fun {b o} e z => by rw [z, hxn] at e; cases e
  have K4 : ∀ b o, hp.get? b = some o → h₄.get? b = some o := fun b o e => k4 b o (neX e) (K3 b o e)
  have X4 := Xp.keeps K4
  have hLx : env.locals ≠ x := fun z => by
    obtain ⟨o, es, ep, ho, hd, _⟩ := ns3
    rw [z, hx3] at ho
    cases ho
    cases hd
  have ns4 : h₄.Ns env.locals m := by
    obtain ⟨o, es, ep, ho, r⟩ := ns3
    exact ⟨o, es, ep, k4 _ _ hLx ho, r⟩
  have hL4 : s.heap.objs.size < h₄.objs.size := by
    rw [← eloc]
    exact ns4.lt
  show PySem.wpAt (model prog w) _ _ (execs [Stmt.Assign [Expr.Attribute (.Name "self" p6) fld p7] (.Name arg p8) p9] env) _ _ (⟨h₄, s.gens, s.drawn, _, s.os⟩ : Shared)
  refine ks_wpAt_execs_cons (ks_wpAt_Assign_Attr ?_ (by rfl))
  refine wpAt_of_wpAny (wpAny_Name ?_ T.ad)
  refine wpAny_loadName_local ekind (kOf _ _ T.s4) ns4 m2 ?_
  refine wpAny_Name ?_ (by decide)
  refine wpAny_loadName_local ekind (kOf _ _ T.s3) ns4 m1 ?_
  have I4 : InstAt h₄ x (excObj C h₃.objs.size none .none) C none := ⟨hx4, rfl, rfl, trivial⟩
  refine set_plain X4 I4 S.sa ?_
  refine osa_first S.SF X4 hx4 S.over S.hd S.fl fun h₅ tk dx k5 hdx dne hx5 hn5 => ?_
  show PySem.wpAt _ _ _ (execs [] env) _ _ _
  rw [execs_nil]
  exact wpAt_of_wpAny (wpAny_pure (hq h₅ tk dx _ (fun b o e => k5 b o (neX e) (K4 b o e)) (Nat.le_of_lt (Nat.lt_of_lt_of_le hL4 hdx)) dne hx5 hn5))
end
end K90
namespace K90
open PySem PySem.Spec PyProof.Rows L2
/-! ### the rule: C(e) -/
def tSup (C : Addr) (fld : Str) (ta : TA) : L2.St → Hp → XK → Prop := fun σ H Q => ta σ H fun vs H1 => ∃ v, vs = [v] ∧ ∀ d, H1 d = none → Q (.ref C) (some d) (upd H1 d (.xd [(fld, v)]))
theorem pmk_sup {X : Cx} {x : Str} {C fI : Addr} {fld arg : Str} {fd : FuncData} {st1 st2 : Stmt} {B newId initId : String} {bmB : List Value} {k : Nat} {e : Expr} {ta : TA} {p pos : Pos} (S : SupC X.prog X.K C fld B newId initId bmB) (T : SupI X.prog X.K C fI fld arg fd st1 st2)
    (iC : PySem.W.findIn X.K (.ref C) "__init__" = some (some (.ref fI))) (iF : PySem.W.isFn X.K (.ref fI) = true) (kC : PySem.W.keepIn X.K (.ref C) = true) (rC : Raises X (.ref C)) (hr : Room (k + 1) X.A) (hg : Gl X x) (hm : X.mg x = some (.ref C)) (hs : X.mg "super" = none) (ha : PA X [e] ta)
    (hdb : (x == ("__debug__" : Str)) = false := by decide) (he : starEach [e] X.env = (false, eval e X.env) :: starEach [] X.env := by rfl) :
    PMk X (.Call (.Name x p) [e] [] pos) (tSup C fld ta) := by
  intro pins s σ H Q I h
  refine wpAny_Call_Name_kw (ld_glob I hg hm ?_ hdb)
  refine PySem.W.callWith_K (h₀ := X.base) I.ok.mod.kin kC (thn (ha.run pos pins s σ H _ I h) fun us s1 ⟨vs, H1, I1, r1, v, ev, q1⟩ => ⟨I1.kIn, ?_⟩) he rfl
  subst ev
  obtain ⟨u, rfl, ru⟩ := r1.one
  show wpAny _ _ (call (.ref C) [u]) _ _ _
  obtain ⟨nm, N', qn, bs, bm, hdct, sn, sub, ab, col, dd, q0, qq1, q2, q3, q5, hC, hT⟩ := PySem.W.excInit_of I1.kIn S.new
  obtain ⟨oI, hoI, hcI⟩ : ∃ oI, s1.heap.get? fI = some oI ∧ oI.cls = .type "function" := by
    obtain ⟨o, ho, hc⟩ := Option.map_eq_some_iff.mp (show (X.K.lookup fI).map (·.cls) = some (.type "function") from beq_iff_eq.mp iF)
    exact ⟨o, I1.kIn _ _ ho, hc⟩
  obtain ⟨hp, g, dr, tk, os⟩ := s1
  have oneOk : [u].length ≤ sizeLine := by show 1 ≤ sizeLine; decide
  have xn : hp.get? (hp.objs.size + 1) = none := Heap.get?_none_of_le (Nat.le_succ _)
  refine wpAny_call (PySem.PX.call_own S.FB hT hC (PySem.W.looks_findIn I1.kIn iC) (fun self => PySem.W.exc_bind hoI hcI self) oneOk ?_)
  have kk : ∀ b o, hp.get? b = some o → ((hp.push (PySem.W.kdv_tup [u])).push (PySem.PX.excO C hp.objs.size)).get? b = some o := fun b o e => Heap.get?_push_of_some _ (Heap.get?_push_of_some _ e)
  have hget : ((hp.push (PySem.W.kdv_tup [u])).push (PySem.PX.excO C hp.objs.size)).get? (hp.objs.size + 1) = some (PySem.W.excObj C hp.objs.size none .none) := by heap_get
  refine init_run S T I1.kIn xn kk hget ?_ ?_ (mg := X.mg) ?_ hs ?_ fun h' tk' dx t1 kf hdx dne hx' hn => ?_
  · exact (hr.make C [u] []).depth
  · exact I1.nolimit.keeps kk
  · exact I1.mod.glob.keeps I1.bk
  · obtain ⟨mb, hb1, hb2⟩ := I1.mod.blt
    exact ⟨mb, hb1.keeps I1.bk, (hb2 "super" (by decide)).trans PyProof.Rows.Boot.«super»⟩
  · refine ⟨rfl, ?_⟩
    have hdx' : hp.objs.size ≤ dx := by
      have z : ((hp.push (PySem.W.kdv_tup [u])).push (PySem.PX.excO C hp.objs.size)).objs.size ≤ dx := hdx
      rw [Heap.size_push, Heap.size_push] at z
      omega
    have hnd : H1 dx = none := I1.hok.fresh hdx'
    obtain ⟨G, g1', g2'⟩ := restrict h' fun b => decide (b ≠ hp.objs.size + 1)
    have gk : ∀ b, b ≠ hp.objs.size + 1 → G.get? b = h'.get? b := fun b hb => g1' b (decide_eq_true hb)
    have ge : G.get? (hp.objs.size + 1) = none := g2' _ (by simp)
    have kG : ∀ b o, hp.get? b = some o → G.get? b = some o := fun b o e => (gk b (fun z => by rw [z, xn] at e; cases e)).trans (kf b o e)
    have new : ObjOk X.prog X.w (upd H1 dx (.xd [(fld, v)])) G dx (.xd [(fld, v)]) := ⟨_, hn.at fun o e => (gk dx dne).trans e, relO_put (fs := []) ru fun _ => True.intro⟩
    have J : Inv X pins σ (upd H1 dx (.xd [(fld, v)])) { (⟨hp, g, dr, tk, os⟩ : Shared) with heap := G, toks := tk' } := I1.laid (t' := tk') kG hdx' new
    have na : H1 (hp.objs.size + 1) = none := I1.hok.fresh (Nat.le_succ _)
    exact ⟨hp.objs.size + 1, _, _, _, _, .ref C, some dx, rfl, J, fun b o z => (by
      by_cases hb : b = hp.objs.size + 1
      · rw [hb] at z
        have z' : G.get? (hp.objs.size + 1) = some o := z
        rw [ge] at z'
        cases z'
      · exact (gk b hb).symm.trans z), ge, hx', ⟨rfl, rfl⟩, rfl, rfl, by rw [upd_ne (Ne.symm dne)]; exact na, rfl, I1.bare, rC, q1 dx hnd⟩
end K90
end

section
set_option Elab.async false
set_option linter.all false
set_option maxRecDepth 100000
set_option maxHeartbeats 4000000
/-! the program's own exceptions -/
namespace K90
open PySem PySem.Spec PyProof.Rows L2
variable {K : PySem.W.Frag} {mg : Str → Option Value}
theorem supI_of {x fld arg : Str} {B : String} {st st1 st2 : Stmt} (he : fnC K (x, some "__init__") = InD.val ⟨x, st⟩) (hb : supB x fld B K = true) (hbody : defBody st = [st1, st2])
    (hd : ∃ ar, ((defArgs st).posonlyargs ++ (defArgs st).args).head? = some ar ∧ ar.arg = "self")
    (bind : ∀ (nm q : Str) (sc : Scope) (gl : Addr) (cl : List (Str × Addr)) (fd : FuncData), fd.params = defArgs st → fd.defaults = .none → ∀ u v, bindArgs fd ⟨[u, v], []⟩ = pure [(("self" : Str), u), (arg, v)])
    (kind : (defScope st).kind = .function) (co : (defScope st).isCoroutine = false) (gen : (defScope st).isGenerator = false) (cell : ∀ x ∈ (defScope st).names, x.2 ≠ .cell) (s1 : (defScope st).names.lookup ("super" : Str) = some .globalImplicit)
    (s2 : (defScope st).names.lookup ("__class__" : Str) = some .free) (s3 : (defScope st).names.lookup ("self" : Str) = some .local) (s4 : (defScope st).names.lookup arg = some .local) (ne : arg ≠ "self")
    (st1e : ∃ p0 p1 p2 p3 p4 p5, st1 = .Expr (.Call (.Attribute (.Call (.Name "super" p0) [] [] p1) "__init__" p2) [.Name arg p3] [] p4) p5 ∧ ∀ env : Env, ∃ pl : Sem Bool, eval (.Call (.Attribute (.Call (.Name "super" p0) [] [] p1) "__init__" p2) [.Name arg p3] [] p4) env = (do
      let ov ← attributeBase (.Call (.Name "super" p0) [] [] p1) "__init__" env (eval (.Call (.Name "super" p0) [] [] p1) env)
      standAt p2.atName
      let (f, first) ← holding [ov] (getMethod ov "__init__" pl)
      callWith p4 f first (backTo p4 (starEach [.Name arg p3] env)) []))
    (st2e : ∃ p6 p7 p8 p9, st2 = .Assign [.Attribute (.Name "self" p6) fld p7] (.Name arg p8) p9) (ad : (arg == ("__debug__" : Str)) = false) (top : (prg.main.scope.names.lookup ("super" : Str)).isSome = false) :
    ∃ fd, SupI prg K (He.ga K x) (He.ma K (He.ga K x) "__init__") fld arg fd st1 st2 := by
  obtain ⟨c1, c⟩ := He.ba hb
  obtain ⟨c2, c⟩ := He.ba c
  obtain ⟨c3, c⟩ := He.ba c
  obtain ⟨c4, c⟩ := He.ba c
  obtain ⟨c5, c⟩ := He.ba c
  obtain ⟨c6, c⟩ := He.ba c
  obtain ⟨c7, c⟩ := He.ba c
  obtain ⟨c8, c⟩ := He.ba c
  obtain ⟨c9, c⟩ := He.ba c
  obtain ⟨c10, c⟩ := He.ba c
  obtain ⟨c11, c⟩ := He.ba c
  obtain ⟨c12, c⟩ := He.ba c
  obtain ⟨c13, c14⟩ := He.ba c
  have he' : fnC K (x, some "__init__") = (match K.lookup (He.ma K (He.ga K x) "__init__") with
    | some ⟨_, _, .func fd, _⟩ => some (fd.name, fd.qualname, fd.params, fd.body, fd.scope, fd.globals, fd.closure.map (·.1), fd.defaults, fd.builtins)
    | _ => none) := rfl
  rw [he'] at he
  unfold codeOk at c14
  unfold cellOf codeOf at *
  cases q : K.lookup (He.ma K (He.ga K x) "__init__") with
  | none => rw [q] at he; cases he
  | some o =>
    obtain ⟨oc, od, dt, osl⟩ := o
    cases dt with
    | func fd =>
      rw [q] at he c12 c13 c14
      have c12 : cellB K (match fd.closure with | [(_, c)] => c | _ => 0) (He.ga K x) = true := c12
      have c13 : fileB K (match fd.code with | .ref c => c | _ => 0) = true := c13
      have c14 : PySem.W.codeIn K fd.code (x ++ ".__init__") = true := c14
      have hz := Option.some.inj (show some (fd.name, fd.qualname, fd.params, fd.body, fd.scope, fd.globals, fd.closure.map (·.1), fd.defaults, fd.builtins) = some (("__init__" : Str), x ++ ".__init__", defArgs st, FuncBody.stmts (defBody st), defScope st, mainGlobals, [("__class__" : Str)], Value.none, builtinsNs) from he)
      injection hz with z1 hz
      injection hz with z2 hz
      injection hz with z3 hz
      injection hz with z4 hz
      injection hz with z5 hz
      injection hz with z6 hz
      injection hz with z7 hz
      injection hz with z8 z9
      refine ⟨fd, ⟨⟨_, q, rfl⟩, by rw [z4, hbody], z6, z9, ?_, ?_, ?_, by rw [z3]; exact hd, fun u v => bind "" "" fd.scope 0 [] fd z3 z8 u v, by rw [z5]; exact kind, by rw [z5]; exact co, by rw [z5]; exact gen, by rw [z5]; exact cell, by rw [z5]; exact s1, by rw [z5]; exact s2, by rw [z5]; exact s3, by rw [z5]; exact s4, ne, st1e, st2e, ad, top⟩⟩
      · cases hc : fd.closure with
        | nil => rw [hc] at z7; cases z7
        | cons a r =>
          rw [hc] at z7
          obtain ⟨an, ac⟩ := a
          injection z7 with z7a z7b
          have er : r = [] := List.map_eq_nil_iff.mp z7b
          subst er
          have ea : an = ("__class__" : Str) := z7a
          subst ea
          rw [hc] at c12
          unfold cellB at c12
          cases q2 : K.lookup ac with
          | none => rw [show (match [(("__class__" : Str), ac)] with | [(_, c)] => c | _ => 0) = ac from rfl, q2] at c12; cases c12
          | some oc2 =>
            rw [show (match [(("__class__" : Str), ac)] with | [(_, c)] => c | _ => 0) = ac from rfl, q2] at c12
            obtain ⟨a1, a2, a3, a4⟩ := oc2
            cases a3 with
            | cell cv =>
              cases cv with
              | none => cases c12
              | some v =>
                cases v with
                | ref D =>
                  have e : He.ga K x = D := beq_iff_eq.mp c12
                  subst e
                  exact ⟨ac, _, rfl, q2, rfl⟩
                | _ => cases c12
            | _ => cases c12
      · unfold PySem.W.codeIn at c14
        cases hcd : fd.code with
        | ref cc =>
          rw [hcd] at c13
          unfold fileB at c13
          cases q2 : K.lookup cc with
          | none => rw [show (match Value.ref cc with | .ref c => c | _ => 0) = cc from rfl, q2] at c13; cases c13
          | some oc2 =>
            rw [show (match Value.ref cc with | .ref c => c | _ => 0) = cc from rfl, q2] at c13
            obtain ⟨a1, a2, a3, a4⟩ := oc2
            cases a3 with
            | fields vs =>
              have c13' : (match vs.getD 2 .none with | .str f _ => (prg.main.file : Str) == f | _ => false) = true := c13
              cases hv : vs.getD 2 .none with
              | str f tk =>
                rw [hv] at c13'
                refine ⟨cc, _, vs, f, tk, rfl, q2, rfl, ?_, c13'⟩
                rw [Array.getD_eq_getD_getElem?] at hv
                cases hg : vs[2]? with
                | none => rw [hg] at hv; cases hv
                | some y =>
                  rw [hg] at hv
                  exact congrArg some hv
              | _ => rw [hv] at c13'; cases c13'
            | _ => cases c13
        | _ => rw [hcd] at c14; cases c14
      · rw [z2]
        exact c14
    | _ => rw [q] at he; cases he
theorem Txt.sup (T : Txt K mg) {x fld : Str} {B : String} (h : (x, fld, B) ∈ sups) : supB x fld B K = true := T.ex (List.mem_append_right _ (List.mem_append_right _ (List.mem_append_left _ (List.mem_map.mpr ⟨(x, fld, B), h, rfl⟩))))
theorem Txt.exc (T : Txt K mg) {x : Str} {B : String} (h : (x, B) ∈ excs) : excB x K = true := T.ex (List.mem_append_right _ (List.mem_append_right _ (List.mem_append_right _ (List.mem_append_left _ (List.mem_map.mpr ⟨(x, B), h, rfl⟩)))))
theorem Txt.kt (T : Txt K mg) {x : Str} {B : String} (h : (x, B) ∈ excs) : PySem.W.kitOne K (.ref (He.ga K x)) (.type B) = some true :=
  of_decide_eq_true (T.ex (f := kitT x B true) (List.mem_append_right _ (List.mem_append_right _ (List.mem_append_right _ (List.mem_append_right _ (List.mem_append_left _ (List.mem_map.mpr ⟨(x, B), h, rfl⟩)))))))
theorem supC_of {x fld : Str} {B newId initId : String} (hb : supB x fld B K = true) (he : excB x K = true) (e1 : B ++ ".__new__" = newId) (e2 : B ++ ".__init__" = initId) (FB : ExcBaseFacts B newId initId (mroB B)) (KF : PySem.W.KxsFacts B initId) (SF : StoreFacts B (mroB B) "object.__setattr__" "object") :
    SupC prg K (He.ga K x) fld B newId initId (mroB B) := by
  obtain ⟨c1, c⟩ := He.ba hb
  obtain ⟨c2, c⟩ := He.ba c
  obtain ⟨c3, c⟩ := He.ba c
  obtain ⟨c4, c⟩ := He.ba c
  obtain ⟨c5, c⟩ := He.ba c
  obtain ⟨c6, c⟩ := He.ba c
  obtain ⟨c7, c⟩ := He.ba c
  obtain ⟨c8, c⟩ := He.ba c
  obtain ⟨c9, c⟩ := He.ba c
  obtain ⟨c10, c⟩ := He.ba c
  obtain ⟨d1, d⟩ := He.ba he
  obtain ⟨d2, d⟩ := He.ba d
  obtain ⟨d3, d⟩ := He.ba d
  obtain ⟨d4, d⟩ := He.ba d
  rw [e1] at c1
  have c7' := of_decide_eq_true c7
  rw [e2] at c7'
  exact ⟨c1, c2, He.eqO_ok c3, He.eqO_ok c4, d4, c7', He.eqO_ok c8, of_decide_eq_true c9, of_decide_eq_true c10, FB, KF, SF⟩
theorem supI_NoBox (T : Txt K mg) : ∃ fd st1 st2, SupI prg K (He.ga K "NoBox") (He.ma K (He.ga K "NoBox") "__init__") "box" "box" fd st1 st2 := by
  obtain ⟨fd, h⟩ := supI_of (K := K) (x := "NoBox") (fld := "box") (arg := "box") (st := s_NoBox_init) (T.in_ 0) (T.sup (x := "NoBox") (fld := "box") (B := "LookupError") (by decide +kernel)) rfl ⟨_, rfl, rfl⟩ (fun _ _ _ _ _ fd h1 h2 u v => by
    obtain ⟨a1, a2, a3, a4, a5, a6, a7, a8⟩ := fd
    simp only at h1 h2
    subst h1 h2
    rfl) rfl rfl rfl (by decide +kernel) rfl rfl rfl rfl (by decide) (by refine ⟨_, _, _, _, _, _, rfl, ?_⟩; intro env; exact ⟨_, rfl⟩) (by exact ⟨_, _, _, _, rfl⟩) (by decide) (by decide +kernel)
  exact ⟨fd, _, _, h⟩
theorem supC_NoBox (T : Txt K mg) : SupC prg K (He.ga K "NoBox") "box" "LookupError" "LookupError.__new__" "LookupError.__init__" (mroB "LookupError") := supC_of (T.sup (x := "NoBox") (fld := "box") (B := "LookupError") (by decide +kernel)) (T.exc (x := "NoBox") (B := "LookupError") (by decide +kernel)) (by decide) (by decide) F.excBase_LookupError PySem.W.kxs_LookupError F.store_LookupError
theorem supI_NoKey (T : Txt K mg) : ∃ fd st1 st2, SupI prg K (He.ga K "NoKey") (He.ma K (He.ga K "NoKey") "__init__") "number" "number" fd st1 st2 := by
  obtain ⟨fd, h⟩ := supI_of (K := K) (x := "NoKey") (fld := "number") (arg := "number") (st := s_NoKey_init) (T.in_ 1) (T.sup (x := "NoKey") (fld := "number") (B := "LookupError") (by decide +kernel)) rfl ⟨_, rfl, rfl⟩ (fun _ _ _ _ _ fd h1 h2 u v => by
    obtain ⟨a1, a2, a3, a4, a5, a6, a7, a8⟩ := fd
    simp only at h1 h2
    subst h1 h2
    rfl) rfl rfl rfl (by decide +kernel) rfl rfl rfl rfl (by decide) (by refine ⟨_, _, _, _, _, _, rfl, ?_⟩; intro env; exact ⟨_, rfl⟩) (by exact ⟨_, _, _, _, rfl⟩) (by decide) (by decide +kernel)
  exact ⟨fd, _, _, h⟩
theorem supC_NoKey (T : Txt K mg) : SupC prg K (He.ga K "NoKey") "number" "LookupError" "LookupError.__new__" "LookupError.__init__" (mroB "LookupError") := supC_of (T.sup (x := "NoKey") (fld := "number") (B := "LookupError") (by decide +kernel)) (T.exc (x := "NoKey") (B := "LookupError") (by decide +kernel)) (by decide) (by decide) F.excBase_LookupError PySem.W.kxs_LookupError F.store_LookupError
theorem supI_IsOut (T : Txt K mg) : ∃ fd st1 st2, SupI prg K (He.ga K "IsOut") (He.ma K (He.ga K "IsOut") "__init__") "box" "box" fd st1 st2 := by
  obtain ⟨fd, h⟩ := supI_of (K := K) (x := "IsOut") (fld := "box") (arg := "box") (st := s_IsOut_init) (T.in_ 2) (T.sup (x := "IsOut") (fld := "box") (B := "ValueError") (by decide +kernel)) rfl ⟨_, rfl, rfl⟩ (fun _ _ _ _ _ fd h1 h2 u v => by
    obtain ⟨a1, a2, a3, a4, a5, a6, a7, a8⟩ := fd
    simp only at h1 h2
    subst h1 h2
    rfl) rfl rfl rfl (by decide +kernel) rfl rfl rfl rfl (by decide) (by refine ⟨_, _, _, _, _, _, rfl, ?_⟩; intro env; exact ⟨_, rfl⟩) (by exact ⟨_, _, _, _, rfl⟩) (by decide) (by decide +kernel)
  exact ⟨fd, _, _, h⟩
theorem supC_IsOut (T : Txt K mg) : SupC prg K (He.ga K "IsOut") "box" "ValueError" "ValueError.__new__" "ValueError.__init__" (mroB "ValueError") := supC_of (T.sup (x := "IsOut") (fld := "box") (B := "ValueError") (by decide +kernel)) (T.exc (x := "IsOut") (B := "ValueError") (by decide +kernel)) (by decide) (by decide) F.excBase_ValueError PySem.W.kxs_ValueError F.store_ValueError
theorem supI_NotOut (T : Txt K mg) : ∃ fd st1 st2, SupI prg K (He.ga K "NotOut") (He.ma K (He.ga K "NotOut") "__init__") "box" "box" fd st1 st2 := by
  obtain ⟨fd, h⟩ := supI_of (K := K) (x := "NotOut") (fld := "box") (arg := "box") (st := s_NotOut_init) (T.in_ 3) (T.sup (x := "NotOut") (fld := "box") (B := "ValueError") (by decide +kernel)) rfl ⟨_, rfl, rfl⟩ (fun _ _ _ _ _ fd h1 h2 u v => by
    obtain ⟨a1, a2, a3, a4, a5, a6, a7, a8⟩ := fd
    simp only at h1 h2
    subst h1 h2
    rfl) rfl rfl rfl (by decide +kernel) rfl rfl rfl rfl (by decide) (by refine ⟨_, _, _, _, _, _, rfl, ?_⟩; intro env; exact ⟨_, rfl⟩) (by exact ⟨_, _, _, _, rfl⟩) (by decide) (by decide +kernel)
  exact ⟨fd, _, _, h⟩
theorem supC_NotOut (T : Txt K mg) : SupC prg K (He.ga K "NotOut") "box" "ValueError" "ValueError.__new__" "ValueError.__init__" (mroB "ValueError") := supC_of (T.sup (x := "NotOut") (fld := "box") (B := "ValueError") (by decide +kernel)) (T.exc (x := "NotOut") (B := "ValueError") (by decide +kernel)) (by decide) (by decide) F.excBase_ValueError PySem.W.kxs_ValueError F.store_ValueError
theorem supI_Full (T : Txt K mg) : ∃ fd st1 st2, SupI prg K (He.ga K "Full") (He.ma K (He.ga K "Full") "__init__") "number" "number" fd st1 st2 := by
  obtain ⟨fd, h⟩ := supI_of (K := K) (x := "Full") (fld := "number") (arg := "number") (st := s_Full_init) (T.in_ 4) (T.sup (x := "Full") (fld := "number") (B := "ValueError") (by decide +kernel)) rfl ⟨_, rfl, rfl⟩ (fun _ _ _ _ _ fd h1 h2 u v => by
    obtain ⟨a1, a2, a3, a4, a5, a6, a7, a8⟩ := fd
    simp only at h1 h2
    subst h1 h2
    rfl) rfl rfl rfl (by decide +kernel) rfl rfl rfl rfl (by decide) (by refine ⟨_, _, _, _, _, _, rfl, ?_⟩; intro env; exact ⟨_, rfl⟩) (by exact ⟨_, _, _, _, rfl⟩) (by decide) (by decide +kernel)
  exact ⟨fd, _, _, h⟩
theorem supC_Full (T : Txt K mg) : SupC prg K (He.ga K "Full") "number" "ValueError" "ValueError.__new__" "ValueError.__init__" (mroB "ValueError") := supC_of (T.sup (x := "Full") (fld := "number") (B := "ValueError") (by decide +kernel)) (T.exc (x := "Full") (B := "ValueError") (by decide +kernel)) (by decide) (by decide) F.excBase_ValueError PySem.W.kxs_ValueError F.store_ValueError
end K90
end

section
set_option Elab.async false
set_option linter.all false
set_option maxRecDepth 100000
set_option maxHeartbeats 4000000
/-! Sender: what raises nothing -/
namespace K90
open PySem PySem.Spec PyProof.Rows L2
abbrev CS (K : PySem.W.Frag) : Addr := He.ga K "Sender"
def deedD (p : Str × Str) : PyData := .tuple [.str p.1, .str p.2]
def okX (t : T) : Prop := ∀ x ∈ t.leaves, PyData.strOk x = true
structure SOk (t : T) (outs : List (List Str)) (deeds : List (Str × Str)) : Prop where
  ok : okT t
  okx : okX t
  len : outs.length = deeds.length + 1
  few : outs.length ≤ 60
  sub : ∀ o ∈ outs, o.length ≤ 200 ∧ ∀ x ∈ o, x ∈ t.leaves
  idx : ∀ (i : Nat) (o : List Str), outs[i]? = some o → o.length ≤ i
  dd : ∀ p ∈ deeds, PyData.strOk p.1 = true ∧ p.2 ∈ t.leaves
def SAt (K : PySem.W.Frag) (H : Hp) (p lo ld : Addr) (t : T) (cap : Int) (outs : List (List Str)) (deeds : List (Str × Str)) : Prop :=
  ∃ dx tv vs ws, SlX.Slt H p (CS K) dx [some (.ref ld), some (.int cap), some (.ref lo), some tv] ∧ Dp K H tv t.data ∧ H lo = some (.lst vs) ∧ DpAll K H vs (outs.map outD) ∧ H ld = some (.lst ws) ∧ DpAll K H ws (deeds.map deedD) ∧ lo ≠ ld ∧ SOk t outs deeds
theorem noLs_outs (outs : List (List Str)) : noLs (outs.map outD) = true := noLs_map (f := outD) noL_out outs
theorem noLs_deeds (ds : List (Str × Str)) : noLs (ds.map deedD) = true := noLs_map (f := deedD) (fun _ => rfl) ds
theorem SAt.same {K : PySem.W.Frag} {H H' : Hp} {p lo ld : Addr} {t : T} {cap : Int} {outs : List (List Str)} {deeds : List (Str × Str)} (s : Same H H') (h : SAt K H p lo ld t cap outs deeds) : SAt K H' p lo ld t cap outs deeds := by
  obtain ⟨dx, tv, vs, ws, h1, h2, h3, h4, h5, h6, h7⟩ := h
  exact ⟨dx, tv, vs, ws, slt_same s h1, h2.same s, s _ _ h3, h4.same s, s _ _ h5, h6.same s, h7⟩
theorem SAt.keep {K : PySem.W.Frag} {H H' : Hp} {l : List Addr} {p lo ld : Addr} {t : T} {cap : Int} {outs : List (List Str)} {deeds : List (Str × Str)} (k : Keep l H H') (so : Soft H l) (n1 : lo ∉ l) (n2 : ld ∉ l) (h : SAt K H p lo ld t cap outs deeds) : SAt K H' p lo ld t cap outs deeds := by
  obtain ⟨dx, tv, vs, ws, h1, h2, h3, h4, h5, h6, h7⟩ := h
  exact ⟨dx, tv, vs, ws, slt_keep k so h1, h2.keep k so.noTup (noL_T t), k _ _ h3 n1, h4.keep k so.noTup (noLs_outs outs), k _ _ h5 n2, h6.keep k so.noTup (noLs_deeds deeds), h7⟩
theorem SAt.ok {K : PySem.W.Frag} {H : Hp} {p lo ld : Addr} {t : T} {cap : Int} {outs : List (List Str)} {deeds : List (Str × Str)} (h : SAt K H p lo ld t cap outs deeds) : SOk t outs deeds := by
  obtain ⟨dx, tv, vs, ws, h1, h2, h3, h4, h5, h6, h7, h8⟩ := h
  exact h8
def lastO (outs : List (List Str)) : List Str := outs.getLastD []
theorem last_split {outs : List (List Str)} {n : Nat} (h : outs.length = n + 1) : ∃ l, outs = l ++ [lastO outs] := by
  have hne : outs ≠ [] := fun z => by rw [z] at h; cases h
  refine ⟨outs.dropLast, ?_⟩
  unfold lastO
  rw [List.getLastD_eq_getLast?, List.getLast?_eq_some_getLast hne]
  exact (List.dropLast_concat_getLast hne).symm
theorem dps_snoc {K : PySem.W.Frag} {H : Hp} {vs : List V} {ds : List PyData} {d : PyData} (h : DpAll K H vs (ds ++ [d])) : ∃ ws v, vs = ws ++ [v] ∧ DpAll K H ws ds ∧ Dp K H v d := by
  have hl := h.len
  rw [List.length_append, List.length_singleton] at hl
  obtain ⟨ws, v, e, q⟩ := paired_last (m := ds ++ [d]) (by simp) (dps_to h)
  refine ⟨ws, v, e, ?_, by simpa using q⟩
  have h2 := h.dropLast
  rw [e] at h2
  simpa using h2
theorem SAt.last {K : PySem.W.Frag} {H : Hp} {p lo ld : Addr} {t : T} {cap : Int} {outs : List (List Str)} {deeds : List (Str × Str)} (h : SAt K H p lo ld t cap outs deeds) : lastO outs ∈ outs := by
  obtain ⟨l, e⟩ := last_split h.ok.len
  rw [e]
  simp [lastO]
/-! ### promises -/
def spSInit (K : PySem.W.Frag) : Sp := fun vs H Q _ => ∃ a dx v t cap, vs = [.ref a, v, .int cap] ∧ NewAt H a (CS K) dx ∧ TreeD K H v t ∧ okX t ∧ ∀ H' lo ld, Keep [a, dx] H H' → H lo = none → H ld = none → SAt K H' a lo ld t cap [[]] [] → Q .non H'
def spSOut (K : PySem.W.Frag) : Sp := fun vs H Q _ => ∃ p lo ld t cap outs deeds, vs = [.ref p] ∧ SAt K H p lo ld t cap outs deeds ∧ ∀ H' v', Same H H' → Dp K H' v' (outD (lastO outs)) → Q v' H'
def stD (t : T) (cap : Int) (deeds : List (Str × Str)) : PyData := .tuple [t.data, .int cap, .tuple (deeds.map deedD)]
def spSState (K : PySem.W.Frag) : Sp := fun vs H Q _ => ∃ p lo ld t cap outs deeds, vs = [.ref p] ∧ SAt K H p lo ld t cap outs deeds ∧ ∀ H' v', Same H H' → Dp K H' v' (stD t cap deeds) → Q v' H'
def spSHeader (K : PySem.W.Frag) : Sp := fun vs H Q _ => ∃ p lo ld t cap outs deeds, vs = [.ref p] ∧ SAt K H p lo ld t cap outs deeds ∧ ∀ H' v', Same H H' → Dp K H' v' (hdrD t (lastO outs)) → Q v' H'
def spSParts (K : PySem.W.Frag) : Sp := fun vs H Q _ => ∃ p lo ld t cap outs deeds v o, vs = [.ref p, v] ∧ SAt K H p lo ld t cap outs deeds ∧ OutsD K H v o ∧ ∀ H', Same H H' → Q (.int (cnt t o)) H'
def spSSent (K : PySem.W.Frag) : Sp := fun vs H Q _ => ∃ p lo ld t cap outs deeds, vs = [.ref p] ∧ SAt K H p lo ld t cap outs deeds ∧ ∀ H', Same H H' → Q (.int (sentN t outs)) H'
def spSRoom (K : PySem.W.Frag) : Sp := fun vs H Q _ => ∃ p lo ld t cap outs deeds, vs = [.ref p] ∧ SAt K H p lo ld t cap outs deeds ∧ ∀ H' l, Same H H' → H l = none → H' l = some (.lst ((roomL t cap (lastO outs)).map V.str)) → Q (.ref l) H'
def spSTwin (K : PySem.W.Frag) : Sp := fun vs H Q _ => ∃ p lo ld t cap outs deeds, vs = [.ref p] ∧ SAt K H p lo ld t cap outs deeds ∧ ∀ H' p' lo' ld', Same H H' → H p' = none → H lo' = none → H ld' = none → SAt K H' p' lo' ld' t cap outs deeds → Q (.ref p') H'
section
variable {w : World} {K : PySem.W.Frag} {mg : Str → Option Value} {base : Heap}
theorem ok_S_out (T : Txt K mg) : FnX w K mg base CX0 1 ("Sender", some "out") (spSOut K) := by
  refine fnr (ps := ["self"]) (T.fn 21) sc_Sender_out ?ln ?bd (fun _ _ _ _ _ _ us hl => match us, hl with | [_], _ => rfl)
  case ln =>
    rintro _ _ _ _ ⟨p, lo, ld, t, cap, outs, deeds, rfl, _⟩
    rfl
  case bd =>
    intro cdv A outer s H vs Q E hr h
    apply bodyN
    case h => exact pss_one (ps_ret (pe_ix ix_list (SlX.pe_sl (pv 0)) (pe_un un_neg pe_int) (fun _ _ => rfl)))
    case r =>
      obtain ⟨p, lo, ld, t, cap, outs, deeds, rfl, hs, hQ⟩ := h
      obtain ⟨dx, tv, vs, ws, h1, h2, h3, h4, h5, h6, h7, h8⟩ := id hs
      obtain ⟨l, el⟩ := last_split h8.len
      rw [el, List.map_append] at h4
      obtain ⟨vs0, v, ev, _, hv⟩ := dps_snoc h4
      refine ⟨_, rfl, p, _, dx, _, _, _, _, rfl, h1, T.scls (x := "Sender"), T.slot (x := "Sender") (f := "own_outs") (i := 2), rfl, _, rfl, _, _, -1, v, rfl, rfl, .of h3, by rw [ev]; exact atI_last vs0 v, hQ H v (.refl H) ?_⟩
      exact hv
theorem ok_S_state (T : Txt K mg) : FnX w K mg base CX0 1 ("Sender", some "state") (spSState K) := by
  refine fnr (ps := ["self"]) (T.fn 19) sc_Sender_state ?ln ?bd (fun _ _ _ _ _ _ us hl => match us, hl with | [_], _ => rfl)
  case ln =>
    rintro _ _ _ _ ⟨p, lo, ld, t, cap, outs, deeds, rfl, _⟩
    rfl
  case bd =>
    intro cdv A outer s H vs Q E hr h
    apply bodyN
    case h => exact pss_one (ps_ret (pe_tup (pa_cons (SlX.pe_sl (pv 0)) (pa_cons (SlX.pe_sl (pv 0)) (pa_cons (pe_callTy call_tuple_of (by rfl) T.free boot_tuple (pa_cons (SlX.pe_sl (pv 0)) pa_nil)) pa_nil)))))
    case r =>
      obtain ⟨p, lo, ld, t, cap, outs, deeds, rfl, hs, hQ⟩ := h
      obtain ⟨dx, tv, vs, ws, h1, h2, h3, h4, h5, h6, h7, h8⟩ := id hs
      refine ⟨_, rfl, p, _, dx, _, _, _, _, rfl, h1, T.scls (x := "Sender"), T.slot (x := "Sender") (f := "own_tree") (i := 3), rfl, ?_⟩
      refine ⟨_, rfl, p, _, dx, _, _, _, _, rfl, h1, T.scls (x := "Sender"), T.slot (x := "Sender") (f := "own_limit") (i := 1), rfl, ?_⟩
      refine ⟨_, rfl, p, _, dx, _, _, _, _, rfl, h1, T.scls (x := "Sender"), T.slot (x := "Sender") (f := "own_deeds") (i := 0), rfl, ld, ws, rfl, .inl ⟨.of h5, fun q nq => ?_⟩⟩
      have s1 := same_new (o := .tup ws) nq
      refine ⟨by show 3 ≤ sizeLine; decide, fun r nr => hQ _ _ (s1.trans (same_new nr)) ?_⟩
      exact .tupM upd_same (.cons ((h2.same s1).same (same_new nr)) (.cons (.int cap) (.cons (Dp.same (same_new nr) (.tupM upd_same (h6.same s1))) .nil)))
theorem ok_S_parts (T : Txt K mg) : FnX w K mg base CX0 27 ("Sender", some "parts_for") (spSParts K) := by
  have FL := ok_least_header (w := w) (base := base) T
  refine fnr (ps := ["self", "out"]) (T.fn 23) sc_Sender_parts_for ?ln ?bd (fun _ _ _ _ _ _ us hl => match us, hl with | [_, _], _ => rfl)
  case ln =>
    rintro _ _ _ _ ⟨p, lo, ld, t, cap, outs, deeds, v, o, rfl, _⟩
    rfl
  case bd =>
    intro cdv A outer s H vs Q E hr h
    apply bodyN
    case h => exact pss_one (ps_ret (pe_callB call_len_seq (by rfl) T.free PySem.boot_len (pa_cons (pe_cR FL hr (by rfl) T.glo (T.kp (d := d_least_header) 16) pass0 (pa_cons (SlX.pe_sl (pv 0)) (pa_cons (pv 1) pa_nil))) pa_nil)))
    case r =>
      obtain ⟨p, lo, ld, t, cap, outs, deeds, v, o, rfl, hs, ho, hQ⟩ := h
      obtain ⟨dx, tv, vs, ws, h1, h2, h3, h4, h5, h6, h7, h8⟩ := id hs
      refine ⟨_, rfl, p, _, dx, _, _, _, _, rfl, h1, T.scls (x := "Sender"), T.slot (x := "Sender") (f := "own_tree") (i := 3), rfl, _, rfl, tv, v, t, o, rfl, .of h2 h8.ok, ho, fun H1 v1 s1 d1 => ?_⟩
      obtain ⟨b, xs, rfl, hb, hx⟩ := d1.tupI
      refine ⟨b, xs, rfl, .inr hb, ?_⟩
      rw [hx.len]
      exact hQ H1 s1
theorem ok_S_header (T : Txt K mg) : FnX w K mg base CX0 27 ("Sender", some "header") (spSHeader K) := by
  have FL := ok_least_header (w := w) (base := base) T
  have FO := ok_S_out (w := w) (base := base) T
  refine fnr (ps := ["self"]) (T.fn 22) sc_Sender_header ?ln ?bd (fun _ _ _ _ _ _ us hl => match us, hl with | [_], _ => rfl)
  case ln =>
    rintro _ _ _ _ ⟨p, lo, ld, t, cap, outs, deeds, rfl, _⟩
    rfl
  case bd =>
    intro cdv A outer s H vs Q E hr h
    apply bodyN
    case h => exact pss_one (ps_ret (pe_cR FL hr (by rfl) T.glo (T.kp (d := d_least_header) 16) pass0 (pa_cons (SlX.pe_sl (pv 0)) (pa_cons (SlX.pe_methSl0 (pv 0) (T.scls (x := "Sender")) (T.meth (x := "Sender") (m := "out")) FO (hr.mono (by decide)) pass0) pa_nil))))
    case r =>
      obtain ⟨p, lo, ld, t, cap, outs, deeds, rfl, hs, hQ⟩ := h
      obtain ⟨dx, tv, vs, ws, h1, h2, h3, h4, h5, h6, h7, h8⟩ := id hs
      refine ⟨_, rfl, p, _, dx, _, _, _, _, rfl, h1, T.scls (x := "Sender"), T.slot (x := "Sender") (f := "own_tree") (i := 3), rfl, _, rfl, p, dx, _, rfl, h1, p, lo, ld, t, cap, outs, deeds, rfl, hs, fun H1 v1 s1 d1 => ?_⟩
      exact ⟨tv, v1, t, lastO outs, rfl, .of (h2.same s1) h8.ok, .of d1 (Nat.le_trans (h8.sub _ hs.last).1 (by decide)), fun H2 v2 s2 d2 => hQ H2 v2 (s1.trans s2) d2⟩
theorem ok_S_sent (T : Txt K mg) : FnX w K mg base CX0 28 ("Sender", some "sent") (spSSent K) := by
  have FP := ok_S_parts (w := w) (base := base) T
  refine fnr (ps := ["self"]) (T.fn 27) sc_Sender_sent ?ln ?bd (fun _ _ _ _ _ _ us hl => match us, hl with | [_], _ => rfl)
  case ln =>
    rintro _ _ _ _ ⟨p, lo, ld, t, cap, outs, deeds, rfl, _⟩
    rfl
  case bd =>
    intro cdv A outer s H vs Q E hr h
    apply bodyN
    case h => exact pss_one (ps_ret (pe_callB (cr_sum rfl) (by rfl) T.free boot_sum (pa_cons (pe_lcR (own := [("out", 1)]) (g := gName 1) (tt := tYes) (by rfl) sc_Sender_sent.nd (pi_seq (SlX.pe_sl (pv 0))) (blkOk_by (own := [("out", 1)]) (N := N_Sender_sent) (sc := defScope s_Sender_sent) (by decide +kernel))
            (fun _ _ _ _ _ => pg_name (i := 1) sc_Sender_sent.nd rfl (.inl rfl)) (fun _ _ _ _ _ => pts_nil) (fun _ _ _ _ _ => SlX.pe_methSl (pv 0) (T.scls (x := "Sender")) (T.meth (x := "Sender") (m := "parts_for")) FP hr pass0 (pa_cons (pv 1) pa_nil))) pa_nil)))
    case r =>
      obtain ⟨p, lo, ld, t, cap, outs, deeds, rfl, hs, hQ⟩ := h
      obtain ⟨dx, tv, vs, ws, h1, h2, h3, h4, h5, h6, h7, h8⟩ := id hs
      have hlv := h4.len
      rw [List.length_map] at hlv
      refine ⟨_, rfl, p, _, dx, _, _, _, _, rfl, h1, T.scls (x := "Sender"), T.slot (x := "Sender") (f := "own_outs") (i := 2), rfl, lo, rfl, comp_seq (.inl (.of h3)) (fun i => (outs[i]?).map fun o => PyData.int (cnt t o : Nat)) (fun D i x H2 nD hx hi acc => ?_) fun D H2 acc => ?_⟩
      · obtain ⟨d, hd, hxd⟩ := h4.get hx
        rw [List.getElem?_map] at hd
        obtain ⟨o, ho, rfl⟩ := Option.map_eq_some_iff.mp hd
        have hso := h8.sub o (List.mem_of_getElem? ho)
        refine ⟨rfl, yes_t ⟨_, rfl, p, dx, _, rfl, slt_same acc.1 h1, _, rfl, p, lo, ld, t, cap, outs, deeds, x, o, rfl, hs.same acc.1, .of (hxd.same acc.1) (Nat.le_trans hso.1 (by decide)), fun H3 s3 => ?_⟩⟩
        exact (acc.same s3).pushN (d := .int (cnt t o : Nat)) (by show (outs[i]?).map _ = _; rw [ho]; rfl) rfl (.int _) (small1000 (by have := h8.few; omega))
      · obtain ⟨items, eD, hI⟩ := acc.list
        rw [hlv, fm_map] at hI
        have e : (outs.map fun o => PyData.int (cnt t o : Nat)) = (outs.map fun o => (cnt t o : Int)).map PyData.int := by rw [List.map_map]; rfl
        rw [e] at hI
        have ei := ints_back hI
        refine ⟨D, _, rfl, .of (by rw [eD, ei]), hQ H2 acc.1⟩
end
end K90
end

section
set_option Elab.async false
set_option linter.all false
set_option maxRecDepth 100000
set_option maxHeartbeats 4000000
/-! == and != of a slotted instance with anything -/
namespace K90
open PySem PySem.W PySem.Calls PySem.Spec PyProof.Rows
theorem slot_ne : Slot "object" "__ne__" "object.__ne__" := .of (owner := "object") (n := "__ne__") (by rw [typeLookup_type, builtinLookup_eq_fast]; kernel_rfl) (by decide +kernel) (by decide +kernel) (by decide +kernel)
    (by first | exact .inl (by decide +kernel) | exact .inr (by decide +kernel)) (by rw [isSubtype_type]; kernel_rfl)
section
variable {prog : Program} {w : World} {A : Around} {E : Value → Shared → Prop} {s : Shared} {K : Frag} {x C L f : Addr} {h₀ : Heap} {m : Str → Option Value} {ox : Obj} {od : Option Obj} {b tb : Value}
theorem objNe_run {Q : Fin → Shared → Prop} (hu : A.units < cLine) (X : K.In s.heap) (I : InstAt s.heap x ox C od) (hs : findIn K (.ref C) "__eq__" = some (some (.ref f))) (hf : isFn K (.ref f) = true)
    (h : wpAny (model prog w) A (call (.ref f) [.ref x, b]) (fun v s' => ∃ k, v = .bool k ∧ Q (.done (.ret (.bool (!k)))) s') E s) : wpAny (model prog w) A (Builtin.«object.__ne__» ⟨[.ref x, b], []⟩) Q E s := by
  unfold Builtin.«object.__ne__»
  repeat (first
    | with_reducible refine wpAny_cRoomFor hu ?_
    | (refine wpAny_bind (m := callSpecialIfBound? (.ref x) (Str.ofString "__eq__") [b]) (ifBound_K X I hs hf (wpAny_mono h (fun r s' hr => by
          obtain ⟨k, rfl, hq⟩ := hr
          repeat (first | exact hq | exact wpAny_pure hq | exact wpAny_truthy_bool hq | (refine wpAny_bind (m := truthy (.bool _)) (wpAny_truthy_bool ?_)) | wp_step)) fun _ _ e => e)))
    | wp_step)
theorem ne_K {Q : Value → Shared → Prop} (hu : A.units + 1 < cLine) (Fx : Fr h₀ L s.heap m) (X₀ : K.In h₀) (I : InstAt s.heap x ox C od) (hb : Looks (model prog w) s.heap (typeOf b) tb) (hn : notFirst K C tb = true)
    (hne : findIn K (.ref C) "__ne__" = some (some (.builtin "object.__ne__"))) (hob : mroIn K C (.type "object") = some true) (hs : findIn K (.ref C) "__eq__" = some (some (.ref f))) (hf : isFn K (.ref f) = true)
    (h : wpAny (model prog w) A.in1 (call (.ref f) [.ref x, b]) (fun v s' => ∃ k, v = .bool k ∧ Q (.bool (!k)) s') E s) : wpAny (model prog w) A (richCompare .NotEq (.ref x) b) Q E s := by
  have X := X₀.keeps Fx.keep
  have one : wpAny (model prog w) A (tryCompare (.ref x) (cmpInfo .NotEq).2.1 b) (fun r s' => ∃ v, r = some v ∧ Q v s') E s := by
    unfold tryCompare
    have hcall : wpAny (model prog w) A (call (.builtin "object.__ne__") [.ref x, b]) (fun v s' => ∃ k, v = .bool k ∧ Q (.bool k) s') E s :=
      wpAny_call (codeAny_call_builtin slot_ne.plain F.cmpEntry_ne (check_slot F.cmpKind_ne F.cmpSplit_ne (I.type.andThen (looks_mroIn X hob)) (F.cmpArgs_ne _ _)
        (objNe_run hu X I hs hf (wpAny_mono h (fun v s' ⟨k, e, q⟩ => ⟨k, e, _, rfl, q⟩) fun _ _ e => e))))
    have fin : wpAny (model prog w) A (call (.builtin "object.__ne__") ([.ref x] ++ [b]) >>= fun v => pure (some v)) (fun r s' => ∃ k, r = some (.bool k) ∧ Q (.bool k) s') E s := wpAny_bind (wpAny_mono hcall (fun v s' ⟨k, e, q⟩ => wpAny_pure ⟨k, by rw [e], q⟩) fun _ _ h' => h')
    have bound : wpAny (model prog w) A (callSpecialIfBound? (.ref x) "__ne__" [b]) (fun r s' => ∃ k, r = some (.bool k) ∧ Q (.bool k) s') E s := by
      simp only [callSpecialIfBound?, bindSpecialIfBound?]
      refine wpAny_holding (wpAny_bind (wpAny_bind (wpAny_bind (I.type.here ((looks_findIn X hne).here ?_)))))
      refine wpAny_bind (wpAny_askSetting (wpAny_ite ?_))
      split
      · exact wpAny_bind (wpAny_of_eq (slot_ne.bind _) (wpAny_pure (by exact fin)))
      · exact wpAny_tryCatch (wpAny_bind (wpAny_of_eq (slot_ne.bind _) (wpAny_pure (by exact fin))))
    refine wpAny_bind (wpAny_mono bound (fun r s' ⟨k, e, q⟩ => ?_) fun _ _ e => e)
    subst e
    exact wpAny_pure ⟨_, rfl, q⟩
  unfold richCompare
  simp only [oneThing_ref]
  refine wpAny_holding (wpAny_bind (wpAny_cRoomFor (Nat.lt_of_succ_lt hu) ?_))
  refine wpAny_bind (I.type.here (wpAny_bind (hb.here ?_)))
  split
  · rename_i q
    have e : subIn K tb (.ref C) = some false := by
      rcases Bool.or_eq_true_iff.mp hn with e | e
      · rw [beq_iff_eq.mp e] at q; simp at q
      · exact beq_iff_eq.mp e
    refine wpAny_bind ((looks_subIn X e).here ?_)
    simp only [Bool.false_eq_true, if_false]
    refine wpAny_bind (wpAny_mono one (fun r s' z => ?_) fun _ _ e => e)
    obtain ⟨v, rfl, hq⟩ := z
    exact wpAny_pure hq
  · refine wpAny_bind (wpAny_pure ?_)
    simp only [Bool.false_eq_true, if_false]
    refine wpAny_bind (wpAny_mono one (fun r s' z => ?_) fun _ _ e => e)
    obtain ⟨v, rfl, hq⟩ := z
    exact wpAny_pure hq
end
end K90
namespace K90
open PySem PySem.Spec PyProof.Rows L2
/-! ### the rules -/
/-- type of a value that is compared with: another instance, or data -/
theorem looks_ty {X : Cx} {pins : List (Addr × Obj)} {σ : L2.St} {H : Hp} {s : Shared} {x : V} {u t : Value} (I : Inv X pins σ H s) (r : RelV x u) (ty : TyX X.K H x t) : PySem.W.Looks (model X.prog X.w) s.heap (typeOf u) t := by
  obtain ⟨P, k, hp, _⟩ := kit_of I r ty
  exact k.ty _ _ I.kIn hp
/-- s == y, s != y: s an instance of the class at C with slots, y anything that C is not above of; sp: what its __eq__ says -/
def rOwnY (K : PySem.W.Frag) (C : Addr) (sp : Sp) (E : XK) (neg : Bool) : R2 := fun x y H Q => ∃ a dx vs, x = .ref a ∧ SlX.Slt H a C dx vs ∧ ((∃ b C' dy ws, y = .ref b ∧ SlX.Slt H b C' dy ws ∧ PySem.W.notFirst K C (.ref C') = true) ∨ ∃ t, TyX K H y t ∧ PySem.W.notFirst K C t = true) ∧
  sp [x, y] H (fun z H' => ∃ k, z = .bl k ∧ Q (.bl (if neg then !k else k)) H') E
theorem ty_other {X : Cx} {pins : List (Addr × Obj)} {σ : L2.St} {H : Hp} {s : Shared} {y : V} {u : Value} {C : Addr} (I : Inv X pins σ H s) (r : RelV y u)
    (h : (∃ b C' dy ws, y = .ref b ∧ SlX.Slt H b C' dy ws ∧ PySem.W.notFirst X.K C (.ref C') = true) ∨ ∃ t, TyX X.K H y t ∧ PySem.W.notFirst X.K C t = true) : ∃ tb, PySem.W.Looks (model X.prog X.w) s.heap (typeOf u) tb ∧ PySem.W.notFirst X.K C tb = true := by
  rcases h with ⟨b, C', dy, ws, e, h1, h2⟩ | ⟨t, h1, h2⟩
  · subst e
    obtain rfl : u = Value.ref b := r
    obtain ⟨sl, od, _, J, _⟩ := SlX.slt_inst I h1
    exact ⟨_, J.type, h2⟩
  · exact ⟨t, looks_ty I r h1, h2⟩
theorem op_eqY {X : Cx} {C g : Addr} {sp : Sp} {E : XK} {CX : CXT} {n : Nat} (hs : PySem.W.findIn X.K (.ref C) "__eq__" = some (some (.ref g))) (hf : PySem.W.isFn X.K (.ref g) = true) (F : FnR X.prog X.w X.K X.mg X.base CX n g sp)
    (hr : Room n X.A) (hx : Passes CX X E) : OpR X (compareOp .Eq) (rOwnY X.K C sp E false) := by
  intro pins s σ H x y v u Q I rx ry h
  obtain ⟨a, dx, vs, rfl, ha, hb, q⟩ := h
  cases (show v = Value.ref a from rx)
  obtain ⟨tb, hb1, hb2⟩ := ty_other I ry hb
  obtain ⟨sl, od, _, J, _⟩ := SlX.slt_inst I ha
  obtain ⟨m, hF⟩ := I.fr
  show wpAny _ _ (richCompare .Eq _ _) _ _ _
  refine PySem.W.cmp_K (op := .Eq) hr.units0 hF I.ok.mod.kin J hb1 hb2 hs hf ?_
  refine wpAny_mono (wpAny_call (run_fnR (us := [.ref a, u]) (vs := [.ref a, y]) F hr hx I (.cons rfl (.cons ry .nil)) q)) (fun w s' z => ?_) fun _ _ x => x
  obtain ⟨z', H', I', rz, k, ez, qz⟩ := z
  subst ez
  obtain rfl : w = Value.bool k := rz
  exact ⟨.bl k, H', I', rfl, qz⟩
theorem op_neY {X : Cx} {C g : Addr} {sp : Sp} {E : XK} {CX : CXT} {n : Nat} (hs : PySem.W.findIn X.K (.ref C) "__eq__" = some (some (.ref g))) (hf : PySem.W.isFn X.K (.ref g) = true) (hne : PySem.W.findIn X.K (.ref C) "__ne__" = some (some (.builtin "object.__ne__")))
    (hob : PySem.W.mroIn X.K C (.type "object") = some true) (F : FnR X.prog X.w X.K X.mg X.base CX n g sp) (hr : Room (n + 1) X.A) (hx : ∀ (H : Hp) (s : Shared) (e : Value) (s' : Shared), CX X.stack H s E e s' → False) : OpR X (compareOp .NotEq) (rOwnY X.K C sp E true) := by
  intro pins s σ H x y v u Q I rx ry h
  obtain ⟨a, dx, vs, rfl, ha, hb, q⟩ := h
  cases (show v = Value.ref a from rx)
  obtain ⟨tb, hb1, hb2⟩ := ty_other I ry hb
  obtain ⟨sl, od, _, J, _⟩ := SlX.slt_inst I ha
  obtain ⟨m, hF⟩ := I.fr
  show wpAny _ _ (richCompare .NotEq _ _) _ _ _
  refine ne_K (by have := hr.units; omega) hF I.ok.mod.kin J hb1 hb2 hne hob hs hf ?_
  refine wpAny_call (codeAny_mono (F X.A.in1 X.stack s H [.ref a, u] [.ref a, y] _ E hr.in1 I.env0.in1 (.cons rfl (.cons ry .nil)) q) fun r s' hq => ?_)
  cases r with
  | error e => exact (hx _ _ _ _ hq).elim
  | ok fl =>
    cases fl with
    | ret u' =>
      obtain ⟨v', H', I2, rv, k, ev, q2⟩ := I.after hq
      subst ev
      obtain rfl : u' = Value.bool k := rv
      exact ⟨k, rfl, .bl (!k), H', I2, rfl, q2⟩
    | next => exact False.elim hq
    | brk => exact False.elim hq
    | cont => exact False.elim hq
end K90
end

section
set_option Elab.async false
set_option linter.all false
set_option maxRecDepth 100000
set_option maxHeartbeats 4000000
/-! Sender: room, __init__, twin, __eq__ -/
namespace K90
open PySem PySem.Spec PyProof.Rows L2
theorem leaves_sq {K : PySem.W.Frag} {H : Hp} {v : V} {t : T} (h : Dp K H v (outD t.leaves)) : ∃ a, v = .ref a ∧ SqA K H a (t.leaves.map V.str) := by
  obtain ⟨a, e, q⟩ := outs_tup h
  exact ⟨a, e, .inr q⟩
theorem mem_leaves_of_rest {t : T} {x : Str} (h : x ∈ sortS t.leaves) : x ∈ t.leaves := (sortS_mem _ _).mp h
theorem outs_push {o : List Str} {x : Str} (h : o.length ≤ 200) : (sortS (o ++ [x])).length ≤ 1000 := by
  rw [sortS_len, List.length_append]
  simp
  omega
def roomP (t : T) (cap : Int) (o : List Str) (x : Str) : Bool := !isOut o x && decide ((cnt t (sortS (o ++ [x])) : Int) ≤ cap)
theorem roomL_eq (t : T) (cap : Int) (o : List Str) : roomL t cap o = (sortS t.leaves).filter (roomP t cap o) := by
  unfold roomL restL roomP
  rw [List.filter_filter]
  congr 1
  funext x
  exact Bool.and_comm _ _
section
variable {w : World} {K : PySem.W.Frag} {mg : Str → Option Value} {base : Heap}
theorem ok_S_room (T : Txt K mg) : FnX w K mg base CX0 28 ("Sender", some "room") (spSRoom K) := by
  have FP := ok_S_parts (w := w) (base := base) T
  have FO := ok_S_out (w := w) (base := base) T
  have FB := ok_boxes_in (w := w) (base := base) T
  refine fnr (ps := ["self"]) (T.fn 30) sc_Sender_room ?ln ?bd (fun _ _ _ _ _ _ us hl => match us, hl with | [_], _ => rfl)
  case ln =>
    rintro _ _ _ _ ⟨p, lo, ld, t, cap, outs, deeds, rfl, _⟩
    rfl
  case bd =>
    intro cdv A outer s H vs Q E hr h
    apply bodyN
    case h =>
      apply pss_cons
      · exact (ps_par (i := 1) (j := 2) (by rfl) sc_Sender_room.nd rfl rfl (by decide) rfl rfl (pa_cons (pe_lst pa_nil) (pa_cons (SlX.pe_methSl0 (pv 0) (T.scls (x := "Sender")) (T.meth (x := "Sender") (m := "out")) FO (hr.mono (by decide)) pass0) pa_nil)) (by rfl))
      apply pss_cons
      · apply ps_for PassesOwn.never rfl
        · exact (pi_list (pe_callB (call_sortS hr.units) (by rfl) T.free boot_sorted (pa_cons (pe_cR FB (hr.mono (by decide)) (by rfl) T.glo (T.kp (d := d_boxes_in) 8) pass0 (pa_cons (SlX.pe_sl (pv 0)) pa_nil)) pa_nil)))
        · exact (pg_name (i := 3) sc_Sender_room.nd rfl (.inl rfl))
        · exact (pss_one (ps_if (PW.pt (pw_and (pt_cmpR op_notIn_seq (pv 3) (pv 2) (by rfl)) (pw_and1 (pt_cmpR op_le (SlX.pe_methSl (pv 0) (T.scls (x := "Sender")) (T.meth (x := "Sender") (m := "parts_for")) FP hr pass0
            (pa_cons (pe_callTy call_tuple_of (by rfl) T.free boot_tuple (pa_cons (pe_callB (call_sortS hr.units) (by rfl) T.free boot_sorted (pa_cons (pe_lst (StX.pa_star (pv 2) (pa_cons (pv 3) pa_nil))) pa_nil)) pa_nil)) pa_nil)) (SlX.pe_sl (pv 0)) (nomark _)))))
            (pss_one (ps_expr (pe_bm PySem.F.plainAttrs_list PySem.F.slot_list_append PySem.F.type_list_append mt_append (pv 1) (pa_cons (pv 3) pa_nil)))) pss_nil))
      · exact (pss_one (ps_ret (pv 1)))
    case r =>
      obtain ⟨p, lo, ld, t, cap, outs, deeds, rfl, hs, hQ⟩ := h
      have ⟨dx, tv, vs, ws, h1, h2, h3, h4, h5, h6, h7, h8⟩ := id hs
      refine ⟨by show 0 ≤ sizeLine; decide, fun lf nlf => ?_⟩
      have s1 : Same H (upd H lf (.lst [])) := same_new nlf
      have e1 : upd H lf (.lst []) lf = some (.lst []) := upd_same
      generalize upd H lf (.lst []) = H1 at s1 e1 ⊢
      refine ⟨_, rfl, p, dx, _, rfl, slt_same s1 h1, p, lo, ld, t, cap, outs, deeds, rfl, hs.same s1, fun H2 ov s2 d2 => ⟨_, _, rfl, ?_⟩⟩
      obtain ⟨ob, rfl, hob⟩ := outs_tup d2
      have s12 := s1.trans s2
      refine ⟨_, rfl, p, _, dx, _, _, _, _, rfl, slt_same s12 h1, T.scls (x := "Sender"), T.slot (x := "Sender") (f := "own_tree") (i := 3), rfl, tv, t.data, t, rfl, h2.same s12, smD_ok h8.ok, tupN_T 20 t h8.ok.1, h8.ok, fun H3 bv s3 d3 => ?_⟩
      obtain ⟨ab, rfl, hab⟩ := leaves_sq d3
      have hl100 : t.leaves.length ≤ 100 := by rw [t.len_leaves]; exact h8.ok.2
      refine ⟨ab, t.leaves, rfl, hab, by omega, fun sl nsl => ?_⟩
      have s4 := same_new (o := .lst ((sortS t.leaves).map V.str)) nsl
      have e4 : upd H3 sl (.lst ((sortS t.leaves).map V.str)) sl = some (.lst ((sortS t.leaves).map V.str)) := upd_same
      have neS : lf ≠ sl := ne_of_none (s3 _ _ (s2 _ _ e1)) nsl
      have nlfH : H lf = none := nlf
      generalize upd H3 sl (.lst ((sortS t.leaves).map V.str)) = H4 at s4 e4 ⊢
      refine ⟨sl, rfl, ⟨_, .of e4⟩, ?_⟩
      have s14 := (s12.trans s3).trans s4
      have hso := h8.sub _ hs.last
      refine for_list (xs := (sortS t.leaves).map V.str) (fun i σ' H' => ∃ xv, σ' = [some (.ref p), some (.ref lf), some (.ref ob), xv] ∧ Same H H' ∧ H' lf = some (.lst ((((sortS t.leaves).take i).filter (roomP t cap (lastO outs))).map V.str)) ∧ SqT K H' ob ((lastO outs).map V.str) ∧ H' sl = some (.lst ((sortS t.leaves).map V.str)))
        ⟨none, rfl, s14, s4 _ _ (s3 _ _ (s2 _ _ e1)), same_tup (s3.trans s4) hob, e4⟩ (fun i σ' H' _ ⟨xv, _, _, _, _, q⟩ => .of q) (fun i x σ' H' hx ⟨xv, eσ, sH, eL, hoT, eS⟩ => ?_) (fun σ' H' ⟨xv, eσ, sH, eL, hoT, eS⟩ => ?_)
      · subst eσ
        rw [List.getElem?_map] at hx
        obtain ⟨y, hy, rfl⟩ := Option.map_eq_some_iff.mp hx
        have hlt := (List.getElem?_eq_some_iff.mp hy).1
        rw [sortS_len] at hlt
        have etk : (sortS t.leaves).take (i + 1) = (sortS t.leaves).take i ++ [y] := by rw [List.take_add_one, hy]; rfl
        have hy' : y ∈ t.leaves := mem_leaves_of_rest (List.mem_of_getElem? hy)
        have skip : roomP t cap (lastO outs) y = false → ((((sortS t.leaves).take (i + 1)).filter (roomP t cap (lastO outs))).map V.str) = ((((sortS t.leaves).take i).filter (roomP t cap (lastO outs))).map V.str) := fun c => by rw [etk, List.filter_append]; simp [List.filter, c]
        have hin : (if true = true then !inV (V.str y) ((lastO outs).map V.str) else inV (V.str y) ((lastO outs).map V.str)) = !isOut (lastO outs) y := by rw [if_pos rfl, inV_str]
        refine ⟨_, rfl, _, rfl, ob, _, rfl, .inr hoT, rfl, flat_strs _, _, rfl, ?_⟩
        rw [hin]
        cases c : isOut (lastO outs) y with
        | true =>
          refine iteF (iteF ?_)
          exact ⟨_, rfl, sH, by rw [skip (by unfold roomP; rw [c]; rfl)]; exact eL, hoT, eS⟩
        | false =>
          refine iteT ⟨_, rfl, p, dx, _, rfl, slt_same sH h1, _, rfl, ob, _, rfl, .inl hoT, _, rfl, ?_⟩
          refine ⟨by rw [List.length_append, List.length_map]; have := sizeLine_eq; simp; omega, fun q nq => ?_⟩
          have s5 := same_new (o := .lst ((lastO outs).map V.str ++ [V.str y])) nq
          have e5 : upd H' q (.lst ((lastO outs).map V.str ++ [V.str y])) q = some (.lst ((lastO outs ++ [y]).map V.str)) := by rw [upd_same, List.map_append]; rfl
          generalize upd H' q (.lst ((lastO outs).map V.str ++ [V.str y])) = H5 at s5 e5 ⊢
          refine ⟨q, lastO outs ++ [y], rfl, .inl (.of e5), by rw [List.length_append]; simp; omega, fun q2 nq2 => ?_⟩
          have s6 := same_new (o := .lst ((sortS (lastO outs ++ [y])).map V.str)) nq2
          refine ⟨q2, _, rfl, .inl ⟨.of upd_same, fun q3 nq3 => ?_⟩⟩
          have s7 := same_new (o := .tup ((sortS (lastO outs ++ [y])).map V.str)) nq3
          have s57 := (s5.trans s6).trans s7
          have e7 : upd (upd H5 q2 (.lst ((sortS (lastO outs ++ [y])).map V.str))) q3 (.tup ((sortS (lastO outs ++ [y])).map V.str)) q3 = some (.tup ((sortS (lastO outs ++ [y])).map V.str)) := upd_same
          generalize upd (upd H5 q2 (.lst ((sortS (lastO outs ++ [y])).map V.str))) q3 (.tup ((sortS (lastO outs ++ [y])).map V.str)) = H7 at s57 e7 ⊢
          have sH7 := sH.trans s57
          refine ⟨p, lo, ld, t, cap, outs, deeds, _, sortS (lastO outs ++ [y]), rfl, hs.same sH7, .of (.strs e7) (outs_push hso.1), fun H8 s8 => ?_⟩
          have sH8 := sH7.trans s8
          have eL8 := s8 _ _ (s57 _ _ eL)
          have eS8 := s8 _ _ (s57 _ _ eS)
          have hoT8 := same_tup (s57.trans s8) hoT
          refine ⟨_, rfl, p, _, dx, _, _, _, _, rfl, slt_same sH8 h1, T.scls (x := "Sender"), T.slot (x := "Sender") (f := "own_limit") (i := 1), rfl, _, _, rfl, rfl, _, rfl, ?_⟩
          by_cases c2 : ((cnt t (sortS (lastO outs ++ [y])) : Nat) : Int) ≤ cap
          · rw [decide_eq_true c2]
            have hP : roomP t cap (lastO outs) y = true := by unfold roomP; rw [c, decide_eq_true c2]; rfl
            have hlf : ((((sortS t.leaves).take i).filter (roomP t cap (lastO outs))).map V.str).length ≤ 100 := by
              rw [List.length_map]
              refine Nat.le_trans (List.length_filter_le _ _) ?_
              rw [List.length_take, sortS_len]
              omega
            refine iteT ⟨_, rfl, .inl ⟨rfl, _, .of eL8⟩, _, rfl, _, _, _, rfl, rfl, eL8, small1000 (by omega), ?_⟩
            have k9 := tk_list (o := .lst (((((sortS t.leaves).take i).filter (roomP t cap (lastO outs))).map V.str) ++ [V.str y])) eL8
            refine ⟨_, rfl, fun b u z => ?_, ?_, ?_, ?_⟩
            · rw [upd_ne (ne_of_none z nlfH)]
              exact sH8 b u z
            · rw [upd_same, etk, List.filter_append, List.map_append]
              simp [List.filter, hP]
            · rcases hoT8 with (z | ⟨o, z⟩) | z
              · exact .inl (.inl (k9 _ _ z))
              · refine .inl (.inr ⟨o, ?_⟩)
                rw [upd_ne (fun e => by rw [e, eL8] at z; cases z)]
                exact z
              · exact .inr z
            · rw [upd_ne (Ne.symm neS)]
              exact eS8
          · rw [decide_eq_false c2]
            refine iteF ⟨_, rfl, sH8, ?_, hoT8, eS8⟩
            rw [skip (by unfold roomP; rw [c, decide_eq_false c2]; rfl)]
            exact eL8
      · subst eσ
        refine ⟨_, rfl, hQ H' lf sH nlfH ?_⟩
        rw [eL, List.length_map, List.take_length, roomL_eq]
/-! ### __init__ and its ways to be called -/
structure SI (w : World) (K : PySem.W.Frag) (mg : Str → Option Value) (base : Heap) (fd : FuncData) : Prop where
  ok : FnOk prg w K mg base CX0 23 (He.fAd K ("Sender", some "__init__")) fd ["self", "tree", "limit"] (spSInit K)
  b3 : Binds K fd ["self", "tree", "limit"] []
  b2 : ∃ ds, Vals [V.int 16] ds ∧ Binds K fd ["self", "tree", "limit"] ds
  k1 : ∃ its : List Value, KBn K fd ["self", "tree", "limit"] 2 ["limit"] (fun us ws => us ++ ws) (fun vs zs => vs ++ zs)
  k2 : ∃ its : List Value, KBn K fd ["self", "tree", "limit"] 1 ["limit", "tree"] (fun us ws => us ++ (ws.drop 1 ++ ws.take 1)) (fun vs zs => vs ++ (zs.drop 1 ++ zs.take 1))
theorem ok_S_init (T : Txt K mg) : ∃ fd, SI w K mg base fd := by
  obtain ⟨fd, F⟩ := T.fn 17
  have FT := ok_tupled (w := w) (base := base) T 20
  have F' : FunD K "__init__" "Sender.__init__" (defArgs s_Sender_init) (defBody s_Sender_init) (defScope s_Sender_init) [V.int 16] [] (He.fAd K ("Sender", some "__init__")) fd := F
  refine ⟨fd, ?_, ?_, ?_, ?_, ?_⟩
  · refine F'.ok (N := N_Sender_init) sc_Sender_init ?ln ?bd
    case ln =>
      rintro _ _ _ _ ⟨a, dx, v, t, cap, rfl, _⟩
      rfl
    case bd =>
      intro cdv A outer s H vs Q E hr h
      apply bodyN
      case h =>
        exact pss_cons (SlX.ps_sl (pv 0) (pe_cR FT (hr.mono (by decide)) (by rfl) T.glo (T.kp (d := d_tupled) 0) pass0 (pa_cons (pv 1) pa_nil))) (pss_cons (SlX.ps_sl (pv 0) (pv 2)) (pss_cons (SlX.ps_sl (pv 0) (pe_lst (pa_cons (pe_tup pa_nil) pa_nil))) (pss_one (SlX.ps_sl (pv 0) (pe_lst pa_nil)))))
      case r =>
        obtain ⟨a, dx, v, t, cap, rfl, hn, ht, okx, hQ⟩ := h
        obtain ⟨d, hd, hsm, htu, ok⟩ := ht
        have CSc := T.scls (x := "Sender")
        refine ⟨_, rfl, v, d, rfl, hd, hsm, fun H1 v1 s1 h1 => ?_⟩
        rw [htu] at h1
        have hsl1 := slt_same s1 hn.slt
        have na1 := s1 _ _ hn.1
        have nd1 := s1 _ _ hn.2.1
        refine ⟨_, rfl, a, _, dx, _, [], _, rfl, hsl1, CSc, T.slot (x := "Sender") (f := "own_tree") (i := 3), ?_⟩
        have ev : SlX.putS 3 v1 ([] : List (Option V)) = [none, none, none, some v1] := rfl
        rw [ev]
        have nosq : NoSeq H1 [a, dx] := by
          have z : NewAt H1 a (CS K) dx := ⟨na1, nd1, hn.2.2⟩
          exact z.noSeq
        have kp : Keep [a, dx] H1 (SlX.slH H1 a (CS K) dx [none, none, none, some v1]) := (Keep.of (.refl H1) _).slH (.inl (by simp)) (.inl (by simp))
        have k2 : Keep [a, dx] H (SlX.slH H1 a (CS K) dx [none, none, none, some v1]) := (Keep.of s1 _).trans kp
        have hv2 := h1.keepS kp nosq
        have hsl2 : SlX.Slt (SlX.slH H1 a (CS K) dx [none, none, none, some v1]) a (CS K) dx [none, none, none, some v1] := SlX.slH_slt hn.2.2
        generalize SlX.slH H1 a (CS K) dx [none, none, none, some v1] = H2 at k2 hv2 hsl2 ⊢
        refine ⟨_, rfl, _, rfl, a, _, dx, _, _, _, rfl, hsl2, CSc, T.slot (x := "Sender") (f := "own_limit") (i := 1), ?_⟩
        have ev : SlX.putS 1 (.int cap) [none, none, none, some v1] = [none, some (.int cap), none, some v1] := rfl
        rw [ev]
        have over : ∀ {Hx : Hp} {us us' : List (Option V)}, SlX.Slt Hx a (CS K) dx us → us ≠ [] → NoSeq Hx [a, dx] := fun {Hx us us'} h hne => by
          rcases h with ⟨_, z⟩ | ⟨z1, z2⟩
          · exact absurd z hne
          · intro b hb u e
            rcases List.mem_cons.mp hb with z | z
            · rw [z, z1] at e
              cases e
              exact ⟨(fun _ z => by unfold SlX.SlO at z; cases z), (fun _ z => by unfold SlX.SlO at z; cases z), (fun _ _ z => by unfold SlX.SlO at z; cases z)⟩
            · rw [List.mem_singleton.mp z, z2] at e
              cases e
              exact ⟨(fun _ z => nomatch z), (fun _ z => nomatch z), (fun _ _ z => nomatch z)⟩
        have kp3 : Keep [a, dx] H2 (SlX.slH H2 a (CS K) dx [none, some (.int cap), none, some v1]) := (Keep.of (.refl H2) _).slH (.inl (by simp)) (.inl (by simp))
        have hv3 := hv2.keepS kp3 (over (us' := []) hsl2 (by simp))
        have k3 := k2.trans kp3
        have hsl3 : SlX.Slt (SlX.slH H2 a (CS K) dx [none, some (.int cap), none, some v1]) a (CS K) dx [none, some (.int cap), none, some v1] := SlX.slH_slt hn.2.2
        have n3a : ∃ u, SlX.slH H2 a (CS K) dx [none, some (.int cap), none, some v1] a = some u := ⟨_, upd_same⟩
        have n3d : ∃ u, SlX.slH H2 a (CS K) dx [none, some (.int cap), none, some v1] dx = some u := ⟨_, by unfold SlX.slH; rw [upd_ne hn.2.2, upd_same]⟩
        generalize SlX.slH H2 a (CS K) dx [none, some (.int cap), none, some v1] = H3 at k3 hv3 hsl3 n3a n3d ⊢
        refine ⟨by show 0 ≤ sizeLine; decide, fun q nq => ⟨by show 1 ≤ sizeLine; decide, fun lo nlo => ?_⟩⟩
        have s4 : Same H3 (upd (upd H3 q (.tup [])) lo (.lst [.ref q])) := same_new2 (same_new nq) nlo
        have e4q : upd (upd H3 q (.tup [])) lo (.lst [.ref q]) q = some (.tup []) := same_new nlo _ _ upd_same
        have e4l : upd (upd H3 q (.tup [])) lo (.lst [.ref q]) lo = some (.lst [.ref q]) := upd_same
        have n3lo : H3 lo = none := (same_new nq).free nlo
        generalize upd (upd H3 q (.tup [])) lo (.lst [.ref q]) = H4 at s4 e4q e4l ⊢
        have hsl4 := slt_same s4 hsl3
        refine ⟨_, rfl, a, _, dx, _, _, _, rfl, hsl4, CSc, T.slot (x := "Sender") (f := "own_outs") (i := 2), ?_⟩
        have ev : SlX.putS 2 (.ref lo) [none, some (.int cap), none, some v1] = [none, some (.int cap), some (.ref lo), some v1] := rfl
        rw [ev]
        have loa : lo ≠ a := fun z => by obtain ⟨u, e⟩ := n3a; rw [← z, n3lo] at e; cases e
        have lod : lo ≠ dx := fun z => by obtain ⟨u, e⟩ := n3d; rw [← z, n3lo] at e; cases e
        have qa : q ≠ a := fun z => by obtain ⟨u, e⟩ := n3a; rw [← z, nq] at e; cases e
        have qd : q ≠ dx := fun z => by obtain ⟨u, e⟩ := n3d; rw [← z, nq] at e; cases e
        have kp5 : Keep [a, dx] H4 (SlX.slH H4 a (CS K) dx [none, some (.int cap), some (.ref lo), some v1]) := (Keep.of (.refl H4) _).slH (.inl (by simp)) (.inl (by simp))
        have hv5 := (hv3.same s4).keepS kp5 (over (us' := []) hsl4 (by simp))
        have k5 := (k3.trans (.of s4 _)).trans kp5
        have e5l : SlX.slH H4 a (CS K) dx [none, some (.int cap), some (.ref lo), some v1] lo = some (.lst [.ref q]) := by rw [SlX.slH_ne loa lod]; exact e4l
        have e5q : SlX.slH H4 a (CS K) dx [none, some (.int cap), some (.ref lo), some v1] q = some (.tup []) := by rw [SlX.slH_ne qa qd]; exact e4q
        have hsl5 : SlX.Slt (SlX.slH H4 a (CS K) dx [none, some (.int cap), some (.ref lo), some v1]) a (CS K) dx [none, some (.int cap), some (.ref lo), some v1] := SlX.slH_slt hn.2.2
        have n5a : ∃ u, SlX.slH H4 a (CS K) dx [none, some (.int cap), some (.ref lo), some v1] a = some u := ⟨_, upd_same⟩
        have n5d : ∃ u, SlX.slH H4 a (CS K) dx [none, some (.int cap), some (.ref lo), some v1] dx = some u := ⟨_, by unfold SlX.slH; rw [upd_ne hn.2.2, upd_same]⟩
        generalize SlX.slH H4 a (CS K) dx [none, some (.int cap), some (.ref lo), some v1] = H5 at k5 hv5 e5l e5q hsl5 n5a n5d ⊢
        refine ⟨by show 0 ≤ sizeLine; decide, fun ld nld => ?_⟩
        have s6 := same_new (o := .lst []) nld
        have e6 : upd H5 ld (.lst []) ld = some (.lst []) := upd_same
        generalize upd H5 ld (.lst []) = H6 at s6 e6 ⊢
        have lda : ld ≠ a := fun z => by obtain ⟨u, e⟩ := n5a; rw [← z, nld] at e; cases e
        have ldd : ld ≠ dx := fun z => by obtain ⟨u, e⟩ := n5d; rw [← z, nld] at e; cases e
        have hsl6 := slt_same s6 hsl5
        refine ⟨_, rfl, a, _, dx, _, _, _, rfl, hsl6, CSc, T.slot (x := "Sender") (f := "own_deeds") (i := 0), ?_⟩
        have ev : SlX.putS 0 (.ref ld) [none, some (.int cap), some (V.ref lo), some v1] = [some (.ref ld), some (.int cap), some (.ref lo), some v1] := rfl
        rw [ev]
        have kp7 : Keep [a, dx] H6 (SlX.slH H6 a (CS K) dx [some (.ref ld), some (.int cap), some (.ref lo), some v1]) := (Keep.of (.refl H6) _).slH (.inl (by simp)) (.inl (by simp))
        have hv7 := (hv5.same s6).keepS kp7 (over (us' := []) hsl6 (by simp))
        have hlo : H lo = none := by
          cases z : H lo with
          | none => rfl
          | some o => rw [k3 lo o z (by simp [loa, lod])] at n3lo; cases n3lo
        have hld : H ld = none := by
          cases z : H ld with
          | none => rfl
          | some o => rw [k5 ld o z (by simp [lda, ldd])] at nld; cases nld
        have loo : ∀ b u, H6 b = some u → b ≠ a → b ≠ dx → SlX.slH H6 a (CS K) dx [some (.ref ld), some (.int cap), some (.ref lo), some v1] b = some u := fun b u e h1 h2 => by rw [SlX.slH_ne h1 h2]; exact e
        refine hQ _ lo ld ((k5.trans (.of s6 _)).trans kp7) hlo hld ⟨dx, v1, [.ref q], [], SlX.slH_slt hn.2.2, hv7, loo _ _ (s6 _ _ e5l) loa lod, .one (.tupM (loo _ _ (s6 _ _ e5q) qa qd) .nil), loo _ _ e6 lda ldd, .nil, ne_of_none e5l nld, ?_⟩
        exact ⟨ok, okx, rfl, by decide, fun o ho => by rw [List.mem_singleton.mp ho]; exact ⟨Nat.zero_le _, fun x hx => absurd hx (by simp)⟩, fun i o h => by rw [List.mem_singleton.mp (List.mem_of_getElem? h)]; exact Nat.zero_le i, fun p hp => absurd hp (by simp)⟩
  · obtain ⟨ds, r, b⟩ := F'.binds1 (ps := ["self", "tree", "limit"]) 3 1 (by simp) rfl (fun T kV doc pm an cdv ct us its l1 l2 => match us, its, l1, l2 with | [_, _, _], [_], _, _ => ⟨_, rfl, rfl⟩)
    have e : ds = [] := by cases r; rfl
    rw [e] at b
    exact b
  · exact F'.binds1 (ps := ["self", "tree", "limit"]) 2 0 (by simp) rfl (fun T kV doc pm an cdv ct us its l1 l2 => match us, its, l1, l2 with | [_, _], [_], _, _ => ⟨_, rfl, rfl⟩)
  · exact F'.kbindsD (ps := ["self", "tree", "limit"]) 2 ["limit"] (fun us _ ws => us ++ ws) (by simp) (fun r1 _ r3 => r1.append r3) (fun T kV doc pm an cdv ct us its ws l1 l2 l3 => match us, its, ws, l1, l2, l3 with | [_, _], [_], [_], _, _, _ => ⟨_, rfl, rfl⟩)
  · exact F'.kbindsD (ps := ["self", "tree", "limit"]) 1 ["limit", "tree"] (fun us _ ws => us ++ (ws.drop 1 ++ ws.take 1)) (by simp) (fun r1 _ r3 => r1.append ((r3.drop 1).append (r3.take 1))) (fun T kV doc pm an cdv ct us its ws l1 l2 l3 => match us, its, ws, l1, l2, l3 with | [_], [_], [_, _], _, _, _ => ⟨_, rfl, rfl⟩)
/-! ### __eq__ -/
theorem depth_all2 (a b : PyData) : PyData.depthAll [a, b] = max a.depth b.depth := by simp [PyData.depthAll]
theorem depth_T : ∀ t : K90.T, t.data.depth ≤ t.dp
  | .leaf x => by simp [K90.T.data, PyData.depth]
  | .node l r => by
    have a := depth_T l
    have b := depth_T r
    show PyData.depth (.tuple [l.data, r.data]) ≤ max l.dp r.dp + 1
    rw [PyData.depth, depth_all2]
    omega
theorem lay_T : ∀ t : K90.T, okX t → t.data.canLay0 = true
  | .leaf x, h => by
    show PyData.strOk x = true
    exact h x (List.mem_singleton.mpr rfl)
  | .node l r, h => by
    show (l.data.canLay0 && (r.data.canLay0 && true)) = true
    rw [lay_T l fun x hx => h x (List.mem_append_left _ hx), lay_T r fun x hx => h x (List.mem_append_right _ hx)]
    rfl
theorem lay_deeds : ∀ ds : List (Str × Str), (∀ p ∈ ds, PyData.strOk p.1 = true ∧ PyData.strOk p.2 = true) → PyData.canLayAll0 (ds.map deedD) = true
  | [], _ => rfl
  | p :: ds, h => by
    obtain ⟨h1, h2⟩ := h p List.mem_cons_self
    show ((PyData.strOk p.1 && (PyData.strOk p.2 && true)) && PyData.canLayAll0 (ds.map deedD)) = true
    rw [h1, h2, lay_deeds ds fun q hq => h q (List.mem_cons_of_mem _ hq)]
    rfl
theorem depth_deeds : ∀ ds : List (Str × Str), PyData.depthAll (ds.map deedD) ≤ 1
  | [] => by simp [PyData.depthAll]
  | p :: ds => by
    show PyData.depthAll (deedD p :: ds.map deedD) ≤ 1
    rw [PyData.depthAll]
    have := depth_deeds ds
    simp only [deedD, PyData.depth, PyData.depthAll]
    omega
theorem shaped_st {t : K90.T} {cap : Int} {outs : List (List Str)} {deeds : List (Str × Str)} (h : SOk t outs deeds) : SeqAt.shaped (stD t cap deeds) = true := by
  unfold SeqAt.shaped
  rw [Bool.and_eq_true]
  refine ⟨?_, decide_eq_true ?_⟩
  · show (t.data.canLay0 && (true && (PyData.canLayAll0 (deeds.map deedD) && true))) = true
    rw [lay_T t h.okx, lay_deeds deeds fun p hp => ⟨(h.dd p hp).1, h.okx _ (h.dd p hp).2⟩]
    rfl
  · unfold stD
    rw [PyData.depth]
    have a := depth_T t
    have b := h.ok.1
    have c := depth_deeds deeds
    have e : PyData.depth (.tuple (deeds.map deedD)) ≤ 2 := by rw [PyData.depth]; omega
    simp only [PyData.depthAll, PyData.depth] at e ⊢
    omega
def eqSt (t : K90.T) (cap : Int) (deeds : List (Str × Str)) (t' : K90.T) (cap' : Int) (deeds' : List (Str × Str)) : Bool := PyData.eqv (stD t cap deeds) (stD t' cap' deeds')
def spSEq (K : PySem.W.Frag) : Sp := fun vs H Q _ => ∃ p lo ld t cap outs deeds y, vs = [.ref p, y] ∧ SAt K H p lo ld t cap outs deeds ∧
  ((∃ p' lo' ld' t' cap' outs' deeds', y = .ref p' ∧ SAt K H p' lo' ld' t' cap' outs' deeds' ∧ ∀ H', Same H H' → Q (.bl (eqSt t cap deeds t' cap' deeds')) H') ∨
    (∃ n, TyX K H y n ∧ PySem.W.kitOne K n (.ref (CS K)) = some false ∧ ∀ H', Same H H' → Q (.bl false) H'))
theorem call_isiB {X : Cx} (u : Value) : CallR X (.builtin "isinstance") (fun xs H Q => SlX.rIsiSl X.K u xs H Q ∨ rIsi X.K xs H Q) := by
  intro pins s σ H xs us Q I r h
  rcases h with h | h
  · exact SlX.call_isiSl u pins s σ H xs us Q I r h
  · exact call_isi pins s σ H xs us Q I r h
theorem slt_of {H : Hp} {p lo ld : Addr} {t : K90.T} {cap : Int} {outs : List (List Str)} {deeds : List (Str × Str)} (h : SAt K H p lo ld t cap outs deeds) : ∃ dx vs, SlX.Slt H p (CS K) dx vs := by
  obtain ⟨dx, tv, vs, ws, h1, _⟩ := h
  exact ⟨dx, _, h1⟩
theorem kit_self (T : Txt K mg) : PySem.W.kitOne K (.ref (CS K)) (.ref (CS K)) = some true := by
  unfold PySem.W.kitOne
  rw [if_pos (beq_self_eq_true _)]
theorem ok_S_eq (T : Txt K mg) : FnX w K mg base CX0 2 ("Sender", some "__eq__") (spSEq K) := by
  have FS := ok_S_state (w := w) (base := base) T
  refine fnr (ps := ["self", "other"]) (T.fn 18) sc_Sender_eq ?ln ?bd (fun _ _ _ _ _ _ us hl => match us, hl with | [_, _], _ => rfl)
  case ln =>
    rintro _ _ _ _ ⟨p, lo, ld, t, cap, outs, deeds, y, rfl, _⟩
    rfl
  case bd =>
    intro cdv A outer s H vs Q E hr h
    apply bodyN
    case h => exact pss_one (ps_ret (pe_and (pe_callB (call_isiB (.ref (CS K))) (by rfl) T.free boot_isi (pa_cons (pv 1) (pa_cons (pe_glob (v := .ref (CS K)) (by rfl) T.glo rfl) pa_nil)))
        (pe_one (pe_cmpR (op_eqD hr.units) (SlX.pe_methSl0 (pv 0) (T.scls (x := "Sender")) (T.meth (x := "Sender") (m := "state")) FS hr pass0) (SlX.pe_methSl0 (pv 1) (T.scls (x := "Sender")) (T.meth (x := "Sender") (m := "state")) FS hr pass0) (nomark _)))))
    case r =>
      obtain ⟨p, lo, ld, t, cap, outs, deeds, y, rfl, hs, hy⟩ := h
      rcases hy with ⟨p', lo', ld', t', cap', outs', deeds', rfl, hs', hQ⟩ | ⟨n, hty, hk, hQ⟩
      · obtain ⟨dx, vs, h1⟩ := slt_of hs
        obtain ⟨dx', vs', h1'⟩ := slt_of hs'
        refine ⟨_, rfl, .inl ⟨p', CS K, dx', vs', .ref (CS K), true, rfl, rfl, fun w hw => hw, h1', T.scls (x := "Sender"), T.sisi (x := "Sender"), kit_self T, _, rfl, iteT ?_⟩⟩
        refine ⟨_, rfl, p, dx, vs, rfl, h1, p, lo, ld, t, cap, outs, deeds, rfl, hs, fun H1 v1 s1 d1 => ?_⟩
        refine ⟨_, rfl, p', dx', vs', rfl, slt_same s1 h1', p', lo', ld', t', cap', outs', deeds', rfl, hs'.same s1, fun H2 v2 s2 d2 => ?_⟩
        exact ⟨_, _, d1.same s2, d2, shaped_st hs.ok, shaped_st hs'.ok, hQ H2 (s1.trans s2)⟩
      · refine ⟨_, rfl, .inr ⟨y, .ref (CS K), n, .ref (CS K), false, rfl, .own _, hty, hk, _, rfl, iteF (hQ H (.refl H))⟩⟩
/-! ### twin -/
def gSl (K : PySem.W.Frag) (ta : TE) (f : Str) : TG := fun v σ H Q => ta σ H fun x H2 => ∃ a C dx p vs i, x = .ref a ∧ SlX.Slt H2 a C dx vs ∧ SlX.SCls K C ∧ SlX.Slot1 K C f p i ∧ Q σ (SlX.slH H2 a C dx (SlX.putS i v vs))
theorem pg_sl {X : Cx} {o : Expr} {f : Str} {pos : Pos} {ta : TE} (ho : PE X o ta) : PG X (.Attribute o f pos) (gSl X.K ta f) := by
  refine ⟨fun pins s σ H v u Q I r h => ?_⟩
  rw [assign_Attribute]
  refine wpAny_bind (wpAny_holding (thn (ho.run pins s σ H _ I h) fun ov s1 ⟨x, H1, I1, r1, a, C, dx, p, vs, i, ex, hsl, c, t, q⟩ => ?_))
  subst ex
  obtain rfl : ov = Value.ref a := r1
  refine wpAny_bind (wpAny_standAt ?_)
  refine wpAny_bind (wpAny_holding (SlX.setslot_ok I1 hsl c t r fun s2 I2 => ?_))
  exact wpAny_release ⟨σ, _, I2, q⟩
theorem noSeq_slt {H : Hp} {a C dx : Addr} {us : List (Option V)} (h : SlX.Slt H a C dx us) (hne : us ≠ []) : NoSeq H [a, dx] := by
  rcases h with ⟨_, z⟩ | ⟨z1, z2⟩
  · exact absurd z hne
  · intro b hb u e
    rcases List.mem_cons.mp hb with z | z
    · rw [z, z1] at e
      cases e
      exact ⟨(fun _ z => by unfold SlX.SlO at z; cases z), (fun _ z => by unfold SlX.SlO at z; cases z), (fun _ _ z => by unfold SlX.SlO at z; cases z)⟩
    · rw [List.mem_singleton.mp z, z2] at e
      cases e
      exact ⟨(fun _ z => nomatch z), (fun _ z => nomatch z), (fun _ _ z => nomatch z)⟩
/-- where a stored slot's object and dict stand -/
theorem slt_there {H : Hp} {a C dx : Addr} {us : List (Option V)} (h : SlX.Slt H a C dx us) (hne : us ≠ []) : (∃ φ, H a = some (.ext φ)) ∧ H dx = some (.xd []) := by
  rcases h with ⟨_, z⟩ | ⟨z1, z2⟩
  · exact absurd z hne
  · exact ⟨⟨_, z1⟩, z2⟩
theorem slt_dx {H : Hp} {a C dx : Addr} {us : List (Option V)} (h : SlX.Slt H a C dx us) (hne : us ≠ []) : dx ≠ a := fun z => by
  obtain ⟨⟨φ, h1⟩, h2⟩ := slt_there h hne
  rw [z, h1] at h2
  cases h2
theorem ok_S_twin (T : Txt K mg) : FnX w K mg base CX0 25 ("Sender", some "twin") (spSTwin K) := by
  obtain ⟨fi, SIi⟩ := ok_S_init (w := w) (base := base) T
  refine fnr (ps := ["self"]) (T.fn 32) sc_Sender_twin ?ln ?bd (fun _ _ _ _ _ _ us hl => match us, hl with | [_], _ => rfl)
  case ln =>
    rintro _ _ _ _ ⟨p, lo, ld, t, cap, outs, deeds, rfl, _⟩
    rfl
  case bd =>
    intro cdv A outer s H vs Q E hr h
    apply bodyN
    case h =>
      apply pss_cons
      · exact (ps_set (i := 1) sc_Sender_twin.nd rfl (.inl rfl) (pe_make (T.mkr (x := "Sender")) SIi.ok hr (by rfl) T.glo SIi.b3 .nil pass0 (pa_cons (SlX.pe_sl (pv 0)) (pa_cons (SlX.pe_sl (pv 0)) pa_nil))))
      apply pss_cons
      · exact (ps_asg (pe_tup (pa_cons (pe_callTy call_list_of (by rfl) T.free boot_list (pa_cons (SlX.pe_sl (pv 0)) pa_nil)) (pa_cons (pe_callTy call_list_of (by rfl) T.free boot_list (pa_cons (SlX.pe_sl (pv 0)) pa_nil)) pa_nil)))
          (pg_tup (n := 2) rfl (pgs_cons (pg_sl (pv 1)) (pgs_cons (pg_sl (pv 1)) pgs_nil))))
      · exact (pss_one (ps_ret (pv 1)))
    case r =>
      obtain ⟨p, lo, ld, t, cap, outs, deeds, rfl, hs, hQ⟩ := h
      have ⟨dx, tv, vs, ws, h1, h2, h3, h4, h5, h6, h7, h8⟩ := id hs
      have CSc := T.scls (x := "Sender")
      refine ⟨_, rfl, p, _, dx, _, _, _, _, rfl, h1, CSc, T.slot (x := "Sender") (f := "own_tree") (i := 3), rfl, ?_⟩
      refine ⟨_, rfl, p, _, dx, _, _, _, _, rfl, h1, CSc, T.slot (x := "Sender") (f := "own_limit") (i := 1), rfl, fun x xdx nx nd ne => ?_⟩
      have s1 : Same H (upd (upd H xdx (.own x)) x (.ins (CS K) xdx [])) := new_same nx nd
      refine ⟨x, xdx, tv, t, cap, rfl, .mk ne, .of (h2.same s1) h8.ok, h8.okx, fun H1 lo1 ld1 k1 n1 n2 st1 => ⟨rfl, ?_⟩⟩
      have s2 : Same H H1 := fun b u e => k1 b u (s1 b u e) (by simp [ne_of_none e nx, ne_of_none e nd])
      obtain ⟨xdx', tv1, vs1, ws1, x1, x2, _⟩ := st1
      have hs2 := hs.same s2
      have xne : [some (V.ref ld1), some (.int cap), some (.ref lo1), some tv1] ≠ ([] : List (Option V)) := by simp
      have dne := slt_dx x1 xne
      obtain ⟨⟨φ, xa⟩, xd⟩ := slt_there x1 xne
      refine ⟨_, rfl, p, _, dx, _, _, _, _, rfl, slt_same s2 h1, CSc, T.slot (x := "Sender") (f := "own_outs") (i := 2), rfl, lo, vs, rfl, .inl (.of (s2 _ _ h3)), fun lo' nlo => ?_⟩
      have s3 := same_new (o := .lst vs) nlo
      have e3 : upd H1 lo' (.lst vs) lo' = some (.lst vs) := upd_same
      have loH : H lo' = none := s2.free nlo
      have lox : lo' ≠ x := fun z => by rw [z, xa] at nlo; cases nlo
      have lod : lo' ≠ xdx' := fun z => by rw [z, xd] at nlo; cases nlo
      generalize upd H1 lo' (.lst vs) = H2 at s3 e3 ⊢
      have s23 := s2.trans s3
      refine ⟨_, rfl, p, _, dx, _, _, _, _, rfl, slt_same s23 h1, CSc, T.slot (x := "Sender") (f := "own_deeds") (i := 0), rfl, ld, ws, rfl, .inl (.of (s23 _ _ h5)), fun ld' nld => ?_⟩
      have s4 := same_new (o := .lst ws) nld
      have e4 : upd H2 ld' (.lst ws) ld' = some (.lst ws) := upd_same
      have ldH : H ld' = none := s23.free nld
      have ldx : ld' ≠ x := fun z => by rw [z, s3 _ _ xa] at nld; cases nld
      have ldd : ld' ≠ xdx' := fun z => by rw [z, s3 _ _ xd] at nld; cases nld
      have lold : lo' ≠ ld' := ne_of_none e3 nld
      generalize upd H2 ld' (.lst ws) = H3 at s4 e4 ⊢
      have s24 := s23.trans s4
      refine ⟨by show 2 ≤ sizeLine; decide, fun tp ntp => ?_⟩
      have s5 := same_new (o := .tup [V.ref lo', .ref ld']) ntp
      have e5 : upd H3 tp (.tup [V.ref lo', .ref ld']) tp = some (.tup [V.ref lo', .ref ld']) := upd_same
      generalize upd H3 tp (.tup [V.ref lo', .ref ld']) = H4 at s5 e5 ⊢
      have s25 := s24.trans s5
      have x14 : Same H1 H4 := (s3.trans s4).trans s5
      have hsl4 := slt_same x14 x1
      refine ⟨tp, _, rfl, .of e5, rfl, _, _, rfl, _, rfl, x, _, xdx', _, _, _, rfl, hsl4, CSc, T.slot (x := "Sender") (f := "own_outs") (i := 2), ?_⟩
      have ev : SlX.putS 2 (.ref lo') [some (V.ref ld1), some (.int cap), some (.ref lo1), some tv1] = [some (.ref ld1), some (.int cap), some (.ref lo'), some tv1] := rfl
      rw [ev]
      have kp6 : Keep [x, xdx'] H4 (SlX.slH H4 x (CS K) xdx' [some (.ref ld1), some (.int cap), some (.ref lo'), some tv1]) := (Keep.of (.refl H4) _).slH (.inl (by simp)) (.inl (by simp))
      have hsl6 : SlX.Slt (SlX.slH H4 x (CS K) xdx' [some (.ref ld1), some (.int cap), some (.ref lo'), some tv1]) x (CS K) xdx' [some (.ref ld1), some (.int cap), some (.ref lo'), some tv1] := SlX.slH_slt dne
      have nq4 := noSeq_slt hsl4 xne
      generalize SlX.slH H4 x (CS K) xdx' [some (.ref ld1), some (.int cap), some (.ref lo'), some tv1] = H6 at kp6 hsl6 ⊢
      refine ⟨_, _, rfl, _, rfl, x, _, xdx', _, _, _, rfl, hsl6, CSc, T.slot (x := "Sender") (f := "own_deeds") (i := 0), ?_⟩
      have ev : SlX.putS 0 (.ref ld') [some (V.ref ld1), some (.int cap), some (.ref lo'), some tv1] = [some (.ref ld'), some (.int cap), some (.ref lo'), some tv1] := rfl
      rw [ev]
      have kp7 : Keep [x, xdx'] H6 (SlX.slH H6 x (CS K) xdx' [some (.ref ld'), some (.int cap), some (.ref lo'), some tv1]) := (Keep.of (.refl H6) _).slH (.inl (by simp)) (.inl (by simp))
      have nq6 := noSeq_slt hsl6 (by simp)
      have kk := kp6.trans kp7
      have dpk : ∀ {vs : List V} {ds : List PyData}, DpAll K H4 vs ds → DpAll K (SlX.slH H6 x (CS K) xdx' [some (.ref ld'), some (.int cap), some (.ref lo'), some tv1]) vs ds := fun h => (h.keepS kp6 nq4).keepS kp7 nq6
      have xH : H x = none := nx
      refine ⟨rfl, _, rfl, ?_⟩
      have xdH : H xdx' = none ∨ H xdx' = some (.xd []) := by
        cases z : H xdx' with
        | none => exact .inl rfl
        | some o =>
          have z2 := s2 _ _ z
          rw [xd] at z2
          exact .inr (by rw [← z2])
      have sfin : Same H (SlX.slH H6 x (CS K) xdx' [some (.ref ld'), some (.int cap), some (.ref lo'), some tv1]) := fun b u e => by
        have hbx : b ≠ x := ne_of_none e xH
        by_cases hbd : b = xdx'
        · rw [hbd] at e ⊢
          rcases xdH with z | z
          · rw [z] at e; cases e
          · rw [z] at e
            have q := (slt_there (SlX.slH_slt (H := H6) (C := CS K) (vs := [some (.ref ld'), some (.int cap), some (.ref lo'), some tv1]) dne) (by simp)).2
            rw [q, ← e]
        · exact kk b u (s25 b u e) (by simp [hbx, hbd])
      refine hQ _ x lo' ld' sfin xH loH ldH ⟨xdx', tv1, vs, ws, SlX.slH_slt dne, ?_, ?_, dpk (h4.same s25), ?_, dpk (h6.same s25), lold, h8⟩
      · exact ((x2.same x14).keepS kp6 nq4).keepS kp7 nq6
      · exact kk _ _ (s5 _ _ (s4 _ _ e3)) (by simp [lox, lod])
      · exact kk _ _ (s5 _ _ e4) (by simp [ldx, ldd])
end
end K90
end

section
set_option Elab.async false
set_option linter.all false
set_option maxRecDepth 100000
set_option maxHeartbeats 4000000
/-! Sender: what raises -/
namespace K90
open PySem PySem.Spec PyProof.Rows L2
/-- X() of an own class without __init__ -/
theorem pmk_own0 {X : Cx} {C : Addr} {bmB : List Value} {B newId initId : String} {x : Str} {p pos : Pos} (F : ExcBaseFacts B newId initId bmB) (q : PySem.W.excIn X.K C bmB newId = true) (gC : X.mg x = some (.ref C)) (kC : PySem.W.keepIn X.K (.ref C) = true) (r : Raises X (.ref C)) (hg : Gl X x)
    (hdb : (x == ("__debug__" : Str)) = false := by decide) : PMk X (.Call (.Name x p) [] [] pos) (fun _ H Q => Q (.ref C) none H) := by
  intro pins s σ H Q I h
  refine wpAny_Call_Name_kw (ld_glob I hg gC ?_ hdb)
  refine PySem.W.callWith_K0 I.kIn kC ?_
  obtain ⟨bm, N, nm, qn, bs, hdct, sn, sub, ab, col, dd, k0, k1, k2, k3, k5, mN, hC, hN, hni, T⟩ := exc_obj I.kIn q
  refine wpAny_call_exc_subT F T hC hN hni (fun h' e hm => ?_) (by show 0 ≤ sizeLine; rw [sizeLine_eq]; omega)
  exact mk_of I hm r h (I.hok.gone hm.new)
def xOut (K : PySem.W.Frag) (H : Hp) (C : String) (fld : Str) (v : V) (E : XK) : Prop := ∀ H' d, Same H H' → H d = none → H' d = some (.xd [(fld, v)]) → E (.ref (He.ga K C)) (some d) H'
theorem xOut.go {K : PySem.W.Frag} {H H1 : Hp} {C : String} {fld : Str} {v : V} {E : XK} (h : xOut K H C fld v E) (s : Same H H1) : ∀ d, H1 d = none → E (.ref (He.ga K C)) (some d) (upd H1 d (.xd [(fld, v)])) := fun d nd => h _ _ (s.trans (same_new nd)) (s.free nd) upd_same
theorem xOut.same {K : PySem.W.Frag} {H H1 : Hp} {C : String} {fld : Str} {v : V} {E : XK} (h : xOut K H C fld v E) (s : Same H H1) : xOut K H1 C fld v E := fun H' d s' nd e => h H' d (s.trans s') (s.free nd) e
def spCheck (K : PySem.W.Frag) : Sp := fun vs H Q E => ∃ p lo ld t cap outs deeds x, vs = [.ref p, .str x] ∧ SAt K H p lo ld t cap outs deeds ∧ (x ∈ t.leaves → ∀ H', Same H H' → Q .non H') ∧ (x ∉ t.leaves → xOut K H "NoBox" "box" (.str x) E)
section
variable {w : World} {K : PySem.W.Frag} {mg : Str → Option Value} {base : Heap}
/-- the same as fnr, by its fd: for calls with keywords -/
def FnK (w : World) (K : PySem.W.Frag) (mg : Str → Option Value) (base : Heap) (CX : CXT) (k : Nat) (d : He.DefD) (ps ks : List Str) (sp : Sp) : Prop := ∃ fd, FnOk prg w K mg base CX k (He.fAd K d.at_) fd ps sp ∧ Binds K fd ps [] ∧ KBn K fd ps 1 ks (fun us ws => us ++ ws) (fun vs zs => vs ++ zs)
theorem fnk {d : He.DefD} {CX : CXT} {N ps : List Str} {k : Nat} {sp : Sp} {ks : List Str} (F : ∃ fd, FunD K d.name d.qual d.params d.body d.scope (d.dvs K) (d.kws K) (He.fAd K d.at_) fd) (S : FnScope N ps d.scope)
    (len : ∀ vs H Q E, sp vs H Q E → vs.length = ps.length)
    (hbody : ∀ (cdv : Value) (A : Around) (outer : List Env) (s : Shared) (H : Hp) (vs : List V) (Q : VK) (E : XK), Room k (A.deeper (envOfC d.qual d.scope s.heap.objs.size (He.fAd K d.at_) cdv)) → sp vs H Q E →
      ∃ t, PSs (cxOf CX prg w K mg base N d.qual d.scope (He.fAd K d.at_) cdv A outer s H E) d.body t ∧ t { nx := fun _ H' => Q .non H', rt := Q } (start N vs) H)
    (hb : ∀ (kV doc pm : Value) (an : Option Addr) (cdv ct : Value) (us : List Value), us.length = ps.length → bindArgs (PySem.W.fnOf d.name d.qual d.params d.body d.scope .none kV doc pm an cdv ct) ⟨us, []⟩ = pure (ps.zip us))
    (hk : ∀ (kV doc pm : Value) (an : Option Addr) (cdv ct : Value) (us ws : List Value), us.length = 1 → ws.length = ks.length → bindArgs (PySem.W.fnOf d.name d.qual d.params d.body d.scope .none kV doc pm an cdv ct) ⟨us, ks.zip ws⟩ = pure (ps.zip (us ++ ws)))
    (h1 : d.dfl = [] := by rfl) (h2 : d.kwd = [] := by rfl) : FnK w K mg base CX (k + 1) d ps ks sp := by
  obtain ⟨fd, F⟩ := F
  have e1 : d.dvs K = [] := by unfold He.DefD.dvs; rw [h1]; rfl
  have e2 : d.kws K = [] := by unfold He.DefD.kws; rw [h2]; rfl
  rw [e1, e2] at F
  refine ⟨fd, F.ok S len hbody, F.bindsN hb, ⟨fun s us ws X l1 l2 => ?_, fun r1 r2 => r1.append r2⟩⟩
  obtain ⟨oc, od, dV, kV, doc, pm, an, cdv, ct, osl, rfl, lk, hcd, hD, hK⟩ := F.ex
  rcases hD with ⟨_, rfl⟩ | ⟨e, _⟩
  · exact .of_eq (hk kV doc pm an cdv ct us ws l1 l2)
  · exact absurd rfl e
theorem FnK.fnr {d : He.DefD} {CX : CXT} {ps ks : List Str} {k : Nat} {sp : Sp} (F : FnK w K mg base CX k d ps ks sp) : FnX w K mg base CX k d.at_ sp := by
  obtain ⟨fd, G, b, _⟩ := F
  have r := G.raw b .nil
  refine r.imp fun vs H Q E q => ?_
  rw [List.append_nil]
  exact q
abbrev CXE (w : World) : CXT := L2.CX prg w
theorem pX {N : List Str} {q : Str} {sc : Scope} {f : Addr} {cdv : Value} {A : Around} {outer : List Env} {s : Shared} {H : Hp} {E : XK} : Takes (cxOf (CXE w) prg w K mg base N q sc f cdv A outer s H E) (fun cls d _ H => E cls d H) := takes_of rfl rfl rfl rfl
theorem pE {N : List Str} {q : Str} {sc : Scope} {f : Addr} {cdv : Value} {A : Around} {outer : List Env} {s : Shared} {H : Hp} {E : XK} : Passes (CXE w) (cxOf (CXE w) prg w K mg base N q sc f cdv A outer s H E) E := passes_call pX fun _ _ _ _ h => h
theorem Txt.rs (T : Txt K mg) {x : Str} {B : String} (h : (x, B) ∈ excs) {X : Cx} (e : X.K = K) : Raises X (.ref (He.ga K x)) := by
  obtain ⟨d1, d⟩ := He.ba (T.exc h)
  obtain ⟨d2, d⟩ := He.ba d
  obtain ⟨d3, d⟩ := He.ba d
  obtain ⟨d4, d⟩ := He.ba d
  obtain ⟨d5, d⟩ := He.ba d
  obtain ⟨d6, d⟩ := He.ba d
  obtain ⟨d7, d8⟩ := He.ba d
  subst e
  exact raises_own (of_decide_eq_true d3) (of_decide_eq_true d8)
theorem Txt.kpE (T : Txt K mg) {x : Str} {B : String} (h : (x, B) ∈ excs) : PySem.W.keepIn K (.ref (He.ga K x)) = true := by
  obtain ⟨d1, d⟩ := He.ba (T.exc h)
  obtain ⟨d2, d⟩ := He.ba d
  obtain ⟨d3, d⟩ := He.ba d
  obtain ⟨d4, d⟩ := He.ba d
  obtain ⟨d5, d⟩ := He.ba d
  obtain ⟨d6, d⟩ := He.ba d
  obtain ⟨d7, d8⟩ := He.ba d
  exact d7
theorem Txt.iC (T : Txt K mg) {x fld : Str} {B : String} (h : (x, fld, B) ∈ sups) : PySem.W.findIn K (.ref (He.ga K x)) "__init__" = some (some (.ref (He.ma K (He.ga K x) "__init__"))) ∧ PySem.W.isFn K (.ref (He.ma K (He.ga K x) "__init__")) = true := by
  obtain ⟨c1, c⟩ := He.ba (T.sup h)
  obtain ⟨c2, c⟩ := He.ba c
  obtain ⟨c3, c⟩ := He.ba c
  obtain ⟨c4, c⟩ := He.ba c
  obtain ⟨c5, c⟩ := He.ba c
  obtain ⟨c6, c⟩ := He.ba c
  exact ⟨He.eqO_ok c5, c6⟩
section
variable {X : Cx} {ta : TA} {e : Expr} {p pos : Pos} {k : Nat}
theorem mk_NoBox (T : Txt X.K X.mg) (ep : X.prog = prg) (hr : Room (k + 1) X.A) (hg : Gl X "NoBox") (ha : PA X [e] ta) (he : starEach [e] X.env = (false, eval e X.env) :: starEach [] X.env := by rfl) : PMk X (.Call (.Name "NoBox" p) [e] [] pos) (tSup (He.ga X.K "NoBox") "box" ta) := by
  obtain ⟨fd, st1, st2, I⟩ := supI_NoBox T
  obtain ⟨i1, i2⟩ := T.iC (x := "NoBox") (fld := "box") (B := "LookupError") (by decide +kernel)
  exact pmk_sup (ep ▸ supC_NoBox T) (ep ▸ I) i1 i2 (T.kpE (x := "NoBox") (B := "LookupError") (by decide +kernel)) (T.rs (x := "NoBox") (B := "LookupError") (by decide +kernel) rfl) hr hg T.glo T.free ha (by decide) he
theorem mk_NoKey (T : Txt X.K X.mg) (ep : X.prog = prg) (hr : Room (k + 1) X.A) (hg : Gl X "NoKey") (ha : PA X [e] ta) (he : starEach [e] X.env = (false, eval e X.env) :: starEach [] X.env := by rfl) : PMk X (.Call (.Name "NoKey" p) [e] [] pos) (tSup (He.ga X.K "NoKey") "number" ta) := by
  obtain ⟨fd, st1, st2, I⟩ := supI_NoKey T
  obtain ⟨i1, i2⟩ := T.iC (x := "NoKey") (fld := "number") (B := "LookupError") (by decide +kernel)
  exact pmk_sup (ep ▸ supC_NoKey T) (ep ▸ I) i1 i2 (T.kpE (x := "NoKey") (B := "LookupError") (by decide +kernel)) (T.rs (x := "NoKey") (B := "LookupError") (by decide +kernel) rfl) hr hg T.glo T.free ha (by decide) he
theorem mk_IsOut (T : Txt X.K X.mg) (ep : X.prog = prg) (hr : Room (k + 1) X.A) (hg : Gl X "IsOut") (ha : PA X [e] ta) (he : starEach [e] X.env = (false, eval e X.env) :: starEach [] X.env := by rfl) : PMk X (.Call (.Name "IsOut" p) [e] [] pos) (tSup (He.ga X.K "IsOut") "box" ta) := by
  obtain ⟨fd, st1, st2, I⟩ := supI_IsOut T
  obtain ⟨i1, i2⟩ := T.iC (x := "IsOut") (fld := "box") (B := "ValueError") (by decide +kernel)
  exact pmk_sup (ep ▸ supC_IsOut T) (ep ▸ I) i1 i2 (T.kpE (x := "IsOut") (B := "ValueError") (by decide +kernel)) (T.rs (x := "IsOut") (B := "ValueError") (by decide +kernel) rfl) hr hg T.glo T.free ha (by decide) he
theorem mk_NotOut (T : Txt X.K X.mg) (ep : X.prog = prg) (hr : Room (k + 1) X.A) (hg : Gl X "NotOut") (ha : PA X [e] ta) (he : starEach [e] X.env = (false, eval e X.env) :: starEach [] X.env := by rfl) : PMk X (.Call (.Name "NotOut" p) [e] [] pos) (tSup (He.ga X.K "NotOut") "box" ta) := by
  obtain ⟨fd, st1, st2, I⟩ := supI_NotOut T
  obtain ⟨i1, i2⟩ := T.iC (x := "NotOut") (fld := "box") (B := "ValueError") (by decide +kernel)
  exact pmk_sup (ep ▸ supC_NotOut T) (ep ▸ I) i1 i2 (T.kpE (x := "NotOut") (B := "ValueError") (by decide +kernel)) (T.rs (x := "NotOut") (B := "ValueError") (by decide +kernel) rfl) hr hg T.glo T.free ha (by decide) he
theorem mk_Full (T : Txt X.K X.mg) (ep : X.prog = prg) (hr : Room (k + 1) X.A) (hg : Gl X "Full") (ha : PA X [e] ta) (he : starEach [e] X.env = (false, eval e X.env) :: starEach [] X.env := by rfl) : PMk X (.Call (.Name "Full" p) [e] [] pos) (tSup (He.ga X.K "Full") "number" ta) := by
  obtain ⟨fd, st1, st2, I⟩ := supI_Full T
  obtain ⟨i1, i2⟩ := T.iC (x := "Full") (fld := "number") (B := "ValueError") (by decide +kernel)
  exact pmk_sup (ep ▸ supC_Full T) (ep ▸ I) i1 i2 (T.kpE (x := "Full") (B := "ValueError") (by decide +kernel)) (T.rs (x := "Full") (B := "ValueError") (by decide +kernel) rfl) hr hg T.glo T.free ha (by decide) he
theorem mk_Nothing (T : Txt X.K X.mg) (ep : X.prog = prg) (hg : Gl X "NothingDone") : PMk X (.Call (.Name "NothingDone" p) [] [] pos) (fun _ H Q => Q (.ref (He.ga X.K "NothingDone")) none H) := by
  have q : plainExB "NothingDone" "RuntimeError" X.K = true := T.ex (by simp [exs])
  exact pmk_own0 F.excBase_RuntimeError q T.glo (T.kpE (x := "NothingDone") (B := "RuntimeError") (by decide +kernel)) (T.rs (x := "NothingDone") (B := "RuntimeError") (by decide +kernel) rfl) hg (by decide)
end
theorem ok_S_check (T : Txt K mg) : FnX w K mg base (CXE w) 25 ("Sender", some "check_box") (spCheck K) := by
  have FB := ok_boxes_in (w := w) (base := base) T
  refine fnr (ps := ["self", "box"]) (T.fn 20) sc_Sender_check_box ?ln ?bd (fun _ _ _ _ _ _ us hl => match us, hl with | [_, _], _ => rfl)
  case ln =>
    rintro _ _ _ _ ⟨p, lo, ld, t, cap, outs, deeds, x, rfl, _⟩
    rfl
  case bd =>
    intro cdv A outer s H vs Q E hr h
    apply bodyX
    case h =>
      exact pss_one (ps_if (pt_cmpR op_notIn_seq (pv 1) (pe_cR FB hr (by rfl) T.glo (T.kp (d := d_boxes_in) 8) pass0 (pa_cons (SlX.pe_sl (pv 0)) pa_nil)) (by rfl))
        (pss_one (ps_raise rfl pX (mk_NoBox T rfl (hr.mono (Nat.le_refl 24)) (by rfl) (pa_cons (pv 1) pa_nil)))) pss_nil)
    case r =>
      obtain ⟨p, lo, ld, t, cap, outs, deeds, x, rfl, hs, hQ, hE⟩ := h
      obtain ⟨dx, tv, vs, ws, h1, h2, h3, h4, h5, h6, h7, h8⟩ := id hs
      refine ⟨_, rfl, _, rfl, p, _, dx, _, _, _, _, rfl, h1, T.scls (x := "Sender"), T.slot (x := "Sender") (f := "own_tree") (i := 3), rfl, tv, t.data, t, rfl, h2, smD_ok h8.ok, tupN_T 20 t h8.ok.1, h8.ok, fun H1 v1 s1 d1 => ?_⟩
      obtain ⟨b, rfl, hb⟩ := leaves_sq d1
      refine ⟨b, _, rfl, hb, rfl, flat_strs _, _, rfl, ?_⟩
      rw [if_pos rfl, inV_str]
      by_cases c : x ∈ t.leaves
      · rw [show isOut t.leaves x = true from by unfold isOut; simp [c]]
        exact iteF (hQ c H1 s1)
      · rw [show isOut t.leaves x = false from by unfold isOut; simp [c]]
        exact iteT ⟨_, rfl, _, rfl, (hE c).go s1⟩
/-! ### turn -/
def spTurn (K : PySem.W.Frag) : Sp := fun vs H Q E => ∃ p lo ld t cap outs deeds dv ov pd o, vs = [.ref p, dv, ov] ∧ SAt K H p lo ld t cap outs deeds ∧ Dp K H dv (deedD pd) ∧ Dp K H ov (outD o) ∧ outs.length < 60 ∧ o.length ≤ outs.length ∧ (∀ x ∈ o, x ∈ t.leaves) ∧
  (PyData.strOk pd.1 = true ∧ pd.2 ∈ t.leaves) ∧ ((cnt t o : Int) > cap → xOut K H "Full" "number" (.int (cnt t o)) E) ∧ (¬ (cnt t o : Int) > cap → ∀ H', Keep [lo, ld] H H' → SAt K H' p lo ld t cap (outs ++ [o]) (deeds ++ [pd]) → Q (.int (deeds.length + 1 : Nat)) H')
theorem soft_ll {H : Hp} {a b : Addr} {xs ys : List V} (h1 : H a = some (.lst xs)) (h2 : H b = some (.lst ys)) : Soft H [a, b] := .twoL h1 h2
theorem ok_S_turn (T : Txt K mg) : FnX w K mg base (CXE w) 28 ("Sender", some "turn") (spTurn K) := by
  have FP := ok_S_parts (w := w) (base := base) T
  refine fnr (ps := ["self", "deed", "out"]) (T.fn 24) sc_Sender_turn ?ln ?bd (fun _ _ _ _ _ _ us hl => match us, hl with | [_, _, _], _ => rfl)
  case ln =>
    rintro _ _ _ _ ⟨p, lo, ld, t, cap, outs, deeds, dv, ov, pd, o, rfl, _⟩
    rfl
  case bd =>
    intro cdv A outer s H vs Q E hr h
    apply bodyX
    case h =>
      exact pss_cons (ps_set (i := 3) sc_Sender_turn.nd rfl (.inl rfl) (SlX.pe_methSl (pv 0) (T.scls (x := "Sender")) (T.meth (x := "Sender") (m := "parts_for")) FP hr pass0 (pa_cons (pv 2) pa_nil)))
        (pss_cons (ps_if (pt_cmpR op_gt (pv 3) (SlX.pe_sl (pv 0)) (nomark _)) (pss_one (ps_raise rfl pX (mk_Full T rfl (hr.mono (Nat.le_refl 27)) (by rfl) (pa_cons (pv 3) pa_nil)))) pss_nil)
        (pss_cons (ps_expr (pe_bm PySem.F.plainAttrs_list PySem.F.slot_list_append PySem.F.type_list_append mt_append (SlX.pe_sl (pv 0)) (pa_cons (pv 2) pa_nil)))
        (pss_cons (ps_expr (pe_bm PySem.F.plainAttrs_list PySem.F.slot_list_append PySem.F.type_list_append mt_append (SlX.pe_sl (pv 0)) (pa_cons (pv 1) pa_nil)))
        (pss_one (ps_ret (pe_callB call_len_seq (by rfl) T.free PySem.boot_len (pa_cons (SlX.pe_sl (pv 0)) pa_nil)))))))
    case r =>
      obtain ⟨p, lo, ld, t, cap, outs, deeds, dv, ov, pd, o, rfl, hs, hd, ho, hl60, hol, hox, hpd, hE, hQ⟩ := h
      obtain ⟨dx, tv, vs, ws, h1, h2, h3, h4, h5, h6, h7, h8⟩ := id hs
      refine ⟨_, rfl, p, dx, _, rfl, h1, _, rfl, p, lo, ld, t, cap, outs, deeds, ov, o, rfl, hs, .of ho (by omega), fun H1 s1 => ?_⟩
      have h1' := slt_same s1 h1
      refine ⟨_, rfl, _, rfl, p, _, dx, _, _, _, _, rfl, h1', T.scls (x := "Sender"), T.slot (x := "Sender") (f := "own_limit") (i := 1), rfl, _, _, rfl, rfl, _, rfl, ?_⟩
      by_cases c : (cnt t o : Int) > cap
      · rw [decide_eq_true c]
        exact iteT ⟨_, rfl, _, rfl, (hE c).go s1⟩
      · rw [decide_eq_false c]
        refine iteF ?_
        have e3 := s1 _ _ h3
        have e5 := s1 _ _ h5
        have lv := h4.len
        rw [List.length_map] at lv
        have lw := h6.len
        rw [List.length_map] at lw
        have hlen := h8.len
        have sf : Soft H1 [lo, ld] := soft_ll e3 e5
        refine ⟨_, rfl, p, _, dx, _, _, _, _, rfl, h1', T.scls (x := "Sender"), T.slot (x := "Sender") (f := "own_outs") (i := 2), rfl, .inl ⟨rfl, _, .of e3⟩, _, rfl, lo, vs, _, rfl, rfl, e3, small1000 (by omega), ?_⟩
        have k2 : Keep [lo, ld] H1 (upd H1 lo (.lst (vs ++ [ov]))) := (Keep.of (.refl H1) _).upd (.inl (by simp))
        have h1b := slt_keep k2 sf h1'
        have e3b : upd H1 lo (.lst (vs ++ [ov])) lo = some (.lst (vs ++ [ov])) := upd_same
        have e5b : upd H1 lo (.lst (vs ++ [ov])) ld = some (.lst ws) := by rw [upd_ne (Ne.symm h7)]; exact e5
        generalize upd H1 lo (.lst (vs ++ [ov])) = H2 at k2 h1b e3b e5b ⊢
        have sf2 : Soft H2 [lo, ld] := soft_ll e3b e5b
        refine ⟨_, rfl, p, _, dx, _, _, _, _, rfl, h1b, T.scls (x := "Sender"), T.slot (x := "Sender") (f := "own_deeds") (i := 0), rfl, .inl ⟨rfl, _, .of e5b⟩, _, rfl, ld, ws, _, rfl, rfl, e5b, small1000 (by omega), ?_⟩
        have k3 : Keep [lo, ld] H2 (upd H2 ld (.lst (ws ++ [dv]))) := (Keep.of (.refl H2) _).upd (.inl (by simp))
        have h1c := slt_keep k3 sf2 h1b
        have e5c : upd H2 ld (.lst (ws ++ [dv])) ld = some (.lst (ws ++ [dv])) := upd_same
        have e3c : upd H2 ld (.lst (ws ++ [dv])) lo = some (.lst (vs ++ [ov])) := by rw [upd_ne h7]; exact e3b
        generalize upd H2 ld (.lst (ws ++ [dv])) = H3 at k3 h1c e5c e3c ⊢
        have k13 := k2.trans k3
        refine ⟨_, rfl, p, _, dx, _, _, _, _, rfl, h1c, T.scls (x := "Sender"), T.slot (x := "Sender") (f := "own_deeds") (i := 0), rfl, ld, _, rfl, .inl (.of e5c), ?_⟩
        have el : (ws ++ [dv]).length = deeds.length + 1 := by rw [List.length_append, lw]; rfl
        rw [el]
        refine hQ c H3 ((Keep.of s1 _).trans k13) ⟨dx, tv, _, _, h1c, Dp.keep k13 sf.noTup (noL_T t) (h2.same s1), e3c, ?_, e5c, ?_, h7, ?_⟩
        · rw [List.map_append]
          exact DpAll.app (DpAll.keep k13 sf.noTup (noLs_outs outs) (h4.same s1)) (.one (Dp.keep k13 sf.noTup (noL_out o) (ho.same s1)))
        · rw [List.map_append]
          exact DpAll.app (DpAll.keep k13 sf.noTup (noLs_deeds deeds) (h6.same s1)) (.one (Dp.keep k13 sf.noTup rfl (hd.same s1)))
        · refine ⟨h8.ok, h8.okx, by rw [List.length_append, List.length_append, hlen]; rfl, by rw [List.length_append]; simp; omega, fun q hq => ?_, fun i q hq => ?_, fun q hq => ?_⟩
          · rcases List.mem_append.mp hq with z | z
            · exact h8.sub q z
            · rw [List.mem_singleton.mp z]
              exact ⟨by omega, hox⟩
          · rw [List.getElem?_append] at hq
            split at hq
            · exact h8.idx i q hq
            · rename_i hi
              have hm := List.mem_singleton.mp (List.mem_of_getElem? hq)
              rw [hm]
              omega
          · rcases List.mem_append.mp hq with z | z
            · exact h8.dd q z
            · rw [List.mem_singleton.mp z]
              exact hpd
/-! ### lock, let -/
theorem SOk.last_len {t : T} {outs : List (List Str)} {deeds : List (Str × Str)} (h : SOk t outs deeds) : (lastO outs).length + 1 ≤ outs.length := by
  obtain ⟨l, e⟩ := last_split h.len
  have z := h.idx l.length (lastO outs) (by rw [e]; simp [lastO])
  have zl := congrArg List.length e
  rw [List.length_append, List.length_singleton] at zl
  omega
theorem SOk.last_mem {t : T} {outs : List (List Str)} {deeds : List (Str × Str)} (h : SOk t outs deeds) : ∀ x ∈ lastO outs, x ∈ t.leaves := by
  obtain ⟨l, e⟩ := last_split h.len
  exact (h.sub (lastO outs) (by rw [e]; simp [lastO])).2
def lockO (outs : List (List Str)) (x : Str) : List Str := sortS (lastO outs ++ [x])
def letO (outs : List (List Str)) (x : Str) : List Str := (lastO outs).filter fun y => !decide (y = x)
def spLock (K : PySem.W.Frag) : Sp := fun vs H Q E => ∃ p lo ld t cap outs deeds x, vs = [.ref p, .str x] ∧ SAt K H p lo ld t cap outs deeds ∧ outs.length < 60 ∧ (x ∉ t.leaves → xOut K H "NoBox" "box" (.str x) E) ∧
  (x ∈ t.leaves → (x ∈ lastO outs → xOut K H "IsOut" "box" (.str x) E) ∧ (x ∉ lastO outs → ((cnt t (lockO outs x) : Int) > cap → xOut K H "Full" "number" (.int (cnt t (lockO outs x))) E) ∧
    (¬ (cnt t (lockO outs x) : Int) > cap → ∀ H', Keep [lo, ld] H H' → SAt K H' p lo ld t cap (outs ++ [lockO outs x]) (deeds ++ [(("lock", x) : Str × Str)]) → Q (.int (deeds.length + 1 : Nat)) H')))
def spLet (K : PySem.W.Frag) : Sp := fun vs H Q E => ∃ p lo ld t cap outs deeds x, vs = [.ref p, .str x] ∧ SAt K H p lo ld t cap outs deeds ∧ outs.length < 60 ∧ (x ∉ t.leaves → xOut K H "NoBox" "box" (.str x) E) ∧
  (x ∈ t.leaves → (x ∉ lastO outs → xOut K H "NotOut" "box" (.str x) E) ∧ (x ∈ lastO outs → ((cnt t (letO outs x) : Int) > cap → xOut K H "Full" "number" (.int (cnt t (letO outs x))) E) ∧
    (¬ (cnt t (letO outs x) : Int) > cap → ∀ H', Keep [lo, ld] H H' → SAt K H' p lo ld t cap (outs ++ [letO outs x]) (deeds ++ [(("let", x) : Str × Str)]) → Q (.int (deeds.length + 1 : Nat)) H')))
theorem isOut_true {o : List Str} {x : Str} (h : x ∈ o) : isOut o x = true := by unfold isOut; simp [h]
theorem isOut_false {o : List Str} {x : Str} (h : x ∉ o) : isOut o x = false := by unfold isOut; simp [h]
theorem ok_S_lockK (T : Txt K mg) : FnK w K mg base (CXE w) 29 d_Sender_lock ["self", "box"] ["box"] (spLock K) := by
  have FC := ok_S_check (w := w) (base := base) T
  have FO := ok_S_out (w := w) (base := base) T
  have FT := ok_S_turn (w := w) (base := base) T
  refine fnk (ps := ["self", "box"]) (T.fn 25) sc_Sender_lock ?ln ?bd (fun _ _ _ _ _ _ us hl => match us, hl with | [_, _], _ => rfl) (fun _ _ _ _ _ _ us ws h1 h2 => match us, ws, h1, h2 with | [_], [_], _, _ => rfl)
  case ln =>
    rintro _ _ _ _ ⟨p, lo, ld, t, cap, outs, deeds, x, rfl, _⟩
    rfl
  case bd =>
    intro cdv A outer s H vs Q E hr h
    apply bodyX
    case h =>
      exact pss_cons (ps_expr (SlX.pe_methSl (pv 0) (T.scls (x := "Sender")) (T.meth (x := "Sender") (m := "check_box")) FC (hr.mono (by decide)) pE (pa_cons (pv 1) pa_nil)))
        (pss_cons (ps_if (pt_cmpR op_in_seq (pv 1) (SlX.pe_methSl0 (pv 0) (T.scls (x := "Sender")) (T.meth (x := "Sender") (m := "out")) FO (hr.mono (by decide)) pass0) (by rfl)) (pss_one (ps_raise rfl pX (mk_IsOut T rfl (hr.mono (Nat.le_refl 28)) (by rfl) (pa_cons (pv 1) pa_nil)))) pss_nil)
        (pss_one (ps_ret (SlX.pe_methSl (pv 0) (T.scls (x := "Sender")) (T.meth (x := "Sender") (m := "turn")) FT hr pE
          (pa_cons (pe_tup (pa_cons pe_str (pa_cons (pv 1) pa_nil))) (pa_cons (pe_callTy call_tuple_of (by rfl) T.free boot_tuple (pa_cons (pe_callB (call_sortS hr.units) (by rfl) T.free boot_sorted (pa_cons (pe_lst (StX.pa_star (SlX.pe_methSl0 (pv 0) (T.scls (x := "Sender")) (T.meth (x := "Sender") (m := "out")) FO (hr.mono (by decide)) pass0) (pa_cons (pv 1) pa_nil))) pa_nil)) pa_nil)) pa_nil))))))
    case r =>
      obtain ⟨p, lo, ld, t, cap, outs, deeds, x, rfl, hs, hl60, hNB, hB⟩ := h
      have ⟨dx, tv, vs, ws, h1, h2, h3, h4, h5, h6, h7, h8⟩ := id hs
      refine ⟨_, rfl, p, dx, _, rfl, h1, _, rfl, p, lo, ld, t, cap, outs, deeds, x, rfl, hs, fun hx H1 s1 => ?_, hNB⟩
      obtain ⟨hI, hB⟩ := hB hx
      refine ⟨_, rfl, _, rfl, p, dx, _, rfl, slt_same s1 h1, p, lo, ld, t, cap, outs, deeds, rfl, hs.same s1, fun H2 v2 s2 d2 => ?_⟩
      obtain ⟨ob, rfl, hob⟩ := outs_tup d2
      have s12 := s1.trans s2
      refine ⟨ob, _, rfl, .inr hob, rfl, flat_strs _, _, rfl, ?_⟩
      rw [if_neg Bool.false_ne_true, inV_str]
      by_cases c : x ∈ lastO outs
      · rw [isOut_true c]
        exact iteT ⟨_, rfl, _, rfl, (hI c).go s12⟩
      · rw [isOut_false c]
        obtain ⟨hF, hQ⟩ := hB c
        refine iteF ⟨_, rfl, p, dx, _, rfl, slt_same s12 h1, _, rfl, ?_⟩
        refine ⟨by show 2 ≤ sizeLine; decide, fun q nq => ?_⟩
        have s3 := same_new (o := .tup [.str "lock", .str x]) nq
        have e3 : upd H2 q (.tup [.str "lock", .str x]) q = some (.tup [.str "lock", .str x]) := upd_same
        generalize upd H2 q (.tup [.str "lock", .str x]) = H3 at s3 e3 ⊢
        have s13 := s12.trans s3
        refine ⟨_, rfl, p, dx, _, rfl, slt_same s13 h1, p, lo, ld, t, cap, outs, deeds, rfl, hs.same s13, fun H4 v4 s4 d4 => ?_⟩
        obtain ⟨ob4, rfl, hob4⟩ := outs_tup d4
        refine ⟨ob4, _, rfl, .inl hob4, _, rfl, ?_⟩
        have hll := h8.last_len
        refine ⟨by rw [List.length_append, List.length_map]; have := sizeLine_eq; simp; omega, fun q5 nq5 => ?_⟩
        have s5 := same_new (o := .lst ((lastO outs).map V.str ++ [V.str x])) nq5
        have e5 : upd H4 q5 (.lst ((lastO outs).map V.str ++ [V.str x])) q5 = some (.lst ((lastO outs ++ [x]).map V.str)) := by rw [upd_same, List.map_append]; rfl
        generalize upd H4 q5 (.lst ((lastO outs).map V.str ++ [V.str x])) = H5 at s5 e5 ⊢
        refine ⟨q5, lastO outs ++ [x], rfl, .inl (.of e5), by rw [List.length_append]; simp; omega, fun q6 nq6 => ?_⟩
        have s6 := same_new (o := .lst ((sortS (lastO outs ++ [x])).map V.str)) nq6
        refine ⟨q6, _, rfl, .inl ⟨.of upd_same, fun q7 nq7 => ?_⟩⟩
        have s7 := same_new (o := .tup ((sortS (lastO outs ++ [x])).map V.str)) nq7
        have s67 := s6.trans s7
        have e7 : upd (upd H5 q6 (.lst ((sortS (lastO outs ++ [x])).map V.str))) q7 (.tup ((sortS (lastO outs ++ [x])).map V.str)) q7 = some (.tup ((lockO outs x).map V.str)) := upd_same
        generalize upd (upd H5 q6 (.lst ((sortS (lastO outs ++ [x])).map V.str))) q7 (.tup ((sortS (lastO outs ++ [x])).map V.str)) = H7 at s67 e7 ⊢
        have s47 := (s4.trans s5).trans s67
        have s17 := s13.trans s47
        have lol : (lockO outs x).length = (lastO outs).length + 1 := by unfold lockO; rw [sortS_len, List.length_append]; rfl
        refine ⟨p, lo, ld, t, cap, outs, deeds, .ref q, .ref q7, ("lock", x), lockO outs x, rfl, hs.same s17, .tupM (s47 _ _ e3) (.cons (.str _) (.cons (.str _) .nil)), .strs e7, hl60, by omega, fun y hy => ?_, ⟨(by decide +kernel : PyData.strOk "lock" = true), hx⟩, fun c => (hF c).same s17, fun c H8 k8 hs8 => hQ c H8 ((Keep.of s17 _).trans k8) hs8⟩
        have hy' := (sortS_mem _ _).mp hy
        rcases List.mem_append.mp hy' with z | z
        · exact h8.last_mem y z
        · rw [List.mem_singleton.mp z]; exact hx
theorem ok_S_letK (T : Txt K mg) : FnK w K mg base (CXE w) 29 d_Sender_let ["self", "box"] ["box"] (spLet K) := by
  have FC := ok_S_check (w := w) (base := base) T
  have FO := ok_S_out (w := w) (base := base) T
  have FT := ok_S_turn (w := w) (base := base) T
  refine fnk (ps := ["self", "box"]) (T.fn 26) sc_Sender_let ?ln ?bd (fun _ _ _ _ _ _ us hl => match us, hl with | [_, _], _ => rfl) (fun _ _ _ _ _ _ us ws h1 h2 => match us, ws, h1, h2 with | [_], [_], _, _ => rfl)
  case ln =>
    rintro _ _ _ _ ⟨p, lo, ld, t, cap, outs, deeds, x, rfl, _⟩
    rfl
  case bd =>
    intro cdv A outer s H vs Q E hr h
    apply bodyX
    case h =>
      exact pss_cons (ps_expr (SlX.pe_methSl (pv 0) (T.scls (x := "Sender")) (T.meth (x := "Sender") (m := "check_box")) FC (hr.mono (by decide)) pE (pa_cons (pv 1) pa_nil)))
        (pss_cons (ps_if (pt_cmpR op_notIn_seq (pv 1) (SlX.pe_methSl0 (pv 0) (T.scls (x := "Sender")) (T.meth (x := "Sender") (m := "out")) FO (hr.mono (by decide)) pass0) (by rfl)) (pss_one (ps_raise rfl pX (mk_NotOut T rfl (hr.mono (Nat.le_refl 28)) (by rfl) (pa_cons (pv 1) pa_nil)))) pss_nil)
        (pss_one (ps_ret (SlX.pe_methSl (pv 0) (T.scls (x := "Sender")) (T.meth (x := "Sender") (m := "turn")) FT hr pE
          (pa_cons (pe_tup (pa_cons pe_str (pa_cons (pv 1) pa_nil))) (pa_cons (pe_callTy call_tuple_of (by rfl) T.free boot_tuple (pa_cons (pe_lcR (own := [("own", 2)]) (g := gName 2) (by rfl) sc_Sender_let.nd (pi_seq (SlX.pe_methSl0 (pv 0) (T.scls (x := "Sender")) (T.meth (x := "Sender") (m := "out")) FO (hr.mono (by decide)) pass0)) (blkOk_by (own := [("own", 2)]) (N := N_Sender_let) (sc := defScope s_Sender_let) (by decide +kernel))
            (fun _ _ _ _ _ => pg_name (i := 2) sc_Sender_let.nd rfl (.inl rfl)) (fun _ _ _ _ _ => pts_one (pt_cmpR (op_ne) (pv 2) (pv 1) (by rfl))) (fun _ _ _ _ _ => pv 2)) pa_nil)) pa_nil))))))
    case r =>
      obtain ⟨p, lo, ld, t, cap, outs, deeds, x, rfl, hs, hl60, hNB, hB⟩ := h
      have ⟨dx, tv, vs, ws, h1, h2, h3, h4, h5, h6, h7, h8⟩ := id hs
      refine ⟨_, rfl, p, dx, _, rfl, h1, _, rfl, p, lo, ld, t, cap, outs, deeds, x, rfl, hs, fun hx H1 s1 => ?_, hNB⟩
      obtain ⟨hI, hB⟩ := hB hx
      refine ⟨_, rfl, _, rfl, p, dx, _, rfl, slt_same s1 h1, p, lo, ld, t, cap, outs, deeds, rfl, hs.same s1, fun H2 v2 s2 d2 => ?_⟩
      obtain ⟨ob, rfl, hob⟩ := outs_tup d2
      have s12 := s1.trans s2
      refine ⟨ob, _, rfl, .inr hob, rfl, flat_strs _, _, rfl, ?_⟩
      rw [if_pos rfl, inV_str]
      by_cases c : x ∈ lastO outs
      · rw [isOut_true c]
        obtain ⟨hF, hQ⟩ := hB c
        refine iteF ⟨_, rfl, p, dx, _, rfl, slt_same s12 h1, _, rfl, ?_⟩
        refine ⟨by show 2 ≤ sizeLine; decide, fun q nq => ?_⟩
        have s3 := same_new (o := .tup [.str "let", .str x]) nq
        have e3 : upd H2 q (.tup [.str "let", .str x]) q = some (.tup [.str "let", .str x]) := upd_same
        generalize upd H2 q (.tup [.str "let", .str x]) = H3 at s3 e3 ⊢
        have s13 := s12.trans s3
        have hll := h8.last_len
        have hfew := h8.few
        refine ⟨_, rfl, p, dx, _, rfl, slt_same s13 h1, p, lo, ld, t, cap, outs, deeds, rfl, hs.same s13, fun H4 v4 s4 d4 => ?_⟩
        obtain ⟨ob4, rfl, hob4⟩ := outs_tup d4
        refine ⟨ob4, rfl, comp_seq (K := K) (.inr hob4) (fun i => ((lastO outs)[i]?).bind fun y => if (!decide (y = x)) = true then some (PyData.str y) else none) (fun D i y H5 nD hy hi acc => ?_) fun D H5 acc => ?_⟩
        · rw [List.getElem?_map] at hy
          obtain ⟨z, hz, rfl⟩ := Option.map_eq_some_iff.mp hy
          rw [List.length_map] at hi
          refine ⟨rfl, _, rfl, _, rfl, rfl, _, rfl, ?_⟩
          by_cases e : z = x
          · rw [show (!decide (V.str z = V.str x)) = false from by rw [e]; simp]
            exact iteF (acc.skip (by rw [hz]; simp [e]))
          · rw [show (!decide (V.str z = V.str x)) = true from by simp [e]]
            exact iteT ⟨_, rfl, acc.pushN (d := PyData.str z) (by rw [hz]; simp [e]) rfl (.str _) (small1000 (by omega))⟩
        · obtain ⟨items, eD, hI⟩ := acc.list
          rw [List.length_map, fm_filt] at hI
          have ei := DpAll.strs hI
          subst ei
          refine ⟨D, _, rfl, .inl ⟨.of eD, fun q7 nq7 => ?_⟩⟩
          have s7 := same_new (o := .tup ((letO outs x).map V.str)) nq7
          have e7 : upd H5 q7 (.tup ((letO outs x).map V.str)) q7 = some (.tup ((letO outs x).map V.str)) := upd_same
          show spTurn K _ (upd H5 q7 (.tup ((letO outs x).map V.str))) _ _
          generalize upd H5 q7 (.tup ((letO outs x).map V.str)) = H7 at s7 e7 ⊢
          have s47 := (s4.trans acc.1).trans s7
          have s17 := s13.trans s47
          have lol : (letO outs x).length ≤ (lastO outs).length := List.length_filter_le _ _
          exact ⟨p, lo, ld, t, cap, outs, deeds, .ref q, .ref q7, ("let", x), letO outs x, rfl, hs.same s17, .tupM (s47 _ _ e3) (.cons (.str _) (.cons (.str _) .nil)), .strs e7, hl60, by omega, fun y hy => h8.last_mem y (List.mem_filter.mp hy).1, ⟨(by decide +kernel : PyData.strOk "let" = true), hx⟩, fun c => (hF c).same s17, fun c H8 k8 hs8 => hQ c H8 ((Keep.of s17 _).trans k8) hs8⟩
      · rw [isOut_false c]
        exact iteT ⟨_, rfl, _, rfl, (hI c).go s12⟩
/-! ### keys, who, undo -/
def spKeys (K : PySem.W.Frag) : Sp := fun vs H Q E => ∃ p lo ld t cap outs deeds x, vs = [.ref p, .str x] ∧ SAt K H p lo ld t cap outs deeds ∧ (x ∉ t.leaves → xOut K H "NoBox" "box" (.str x) E) ∧
  (x ∈ t.leaves → ∀ H' l, Same H H' → H l = none → H' l = some (.lst ((keysL outs x).map fun (k : Nat) => V.int (k : Int))) → Q (.ref l) H')
def spWho (K : PySem.W.Frag) : Sp := fun vs H Q E => ∃ p lo ld t cap outs deeds n, vs = [.ref p, .int n] ∧ SAt K H p lo ld t cap outs deeds ∧ (¬ (0 ≤ n ∧ n < (outs.length : Int)) → xOut K H "NoKey" "number" (.int n) E) ∧
  (∀ k : Nat, n = (k : Int) → k < outs.length → ∀ H' v', Same H H' → Dp K H' v' (outD (restL t (outs.getD k []))) → Q v' H')
def spUndo (K : PySem.W.Frag) : Sp := fun vs H Q E => ∃ p lo ld t cap outs deeds, vs = [.ref p] ∧ SAt K H p lo ld t cap outs deeds ∧ (outs.length = 1 → ∀ H', Same H H' → E (.ref (He.ga K "NothingDone")) none H') ∧
  (outs.length ≠ 1 → ∀ H', Keep [lo, ld] H H' → SAt K H' p lo ld t cap outs.dropLast deeds.dropLast → Q .non H')
theorem keys_fm (outs : List (List Str)) (x : Str) : (List.range outs.length).filterMap (fun (i : Nat) => (outs[i]?).bind fun o => if (!isOut o x) = true then some (PyData.int (i : Int)) else none) = natsD (keysL outs x) := by
  unfold natsD keysL
  have : ∀ l : List Nat, (∀ i ∈ l, i < outs.length) → l.filterMap (fun (i : Nat) => (outs[i]?).bind fun o => if (!isOut o x) = true then some (PyData.int (i : Int)) else none) = (l.filter fun k => !isOut (outs.getD k []) x).map fun (k : Nat) => PyData.int (k : Int) := by
    intro l
    induction l with
    | nil => intro _; rfl
    | cons i l ih =>
      intro h
      have hi := h i List.mem_cons_self
      have ih' := ih fun j hj => h j (List.mem_cons_of_mem _ hj)
      rw [List.filterMap_cons, List.filter_cons, List.getElem?_eq_getElem hi]
      rw [List.getD_eq_getElem?_getD, List.getElem?_eq_getElem hi]
      simp only [Option.bind_some, Option.getD_some]
      by_cases c : isOut outs[i] x = true
      · simp only [c, Bool.not_true, Bool.false_eq_true, if_false]
        exact ih'
      · simp only [Bool.eq_false_iff.mpr c, Bool.not_false, if_true, List.map_cons]
        rw [ih']
  exact this _ fun i hi => List.mem_range.mp hi
theorem ok_S_keys (T : Txt K mg) : FnX w K mg base (CXE w) 26 ("Sender", some "keys") (spKeys K) := by
  have FC := ok_S_check (w := w) (base := base) T
  refine fnr (ps := ["self", "box"]) (T.fn 28) sc_Sender_keys ?ln ?bd (fun _ _ _ _ _ _ us hl => match us, hl with | [_, _], _ => rfl)
  case ln =>
    rintro _ _ _ _ ⟨p, lo, ld, t, cap, outs, deeds, x, rfl, _⟩
    rfl
  case bd =>
    intro cdv A outer s H vs Q E hr h
    apply bodyX
    case h =>
      exact pss_cons (ps_expr (SlX.pe_methSl (pv 0) (T.scls (x := "Sender")) (T.meth (x := "Sender") (m := "check_box")) FC (hr.mono (by decide)) pE (pa_cons (pv 1) pa_nil)))
        (pss_one (ps_ret (pe_lcR (own := [("number", 2), ("out", 3)]) (by rfl) sc_Sender_keys.nd (pi_enum (by rfl) T.free (pa_cons (SlX.pe_sl (pv 0)) pa_nil)) (blkOk_by (own := [("number", 2), ("out", 3)]) (N := N_Sender_keys) (sc := defScope s_Sender_keys) (by decide +kernel))
            (fun _ _ _ _ _ => pgTup (n := 2) K rfl rfl (pgs_cons (pg_name (i := 2) sc_Sender_keys.nd rfl (.inl rfl)) (pgs_cons (pg_name (i := 3) sc_Sender_keys.nd rfl (.inl rfl)) pgs_nil)))
            (fun _ _ _ _ _ => pts_one (pt_cmpR (opNotIn K rfl) (pv 1) (pv 3) (by rfl))) (fun _ _ _ _ _ => pv 2))))
    case r =>
      obtain ⟨p, lo, ld, t, cap, outs, deeds, x, rfl, hs, hNB, hB⟩ := h
      have ⟨dx, tv, vs, ws, h1, h2, h3, h4, h5, h6, h7, h8⟩ := id hs
      refine ⟨_, rfl, p, dx, _, rfl, h1, _, rfl, p, lo, ld, t, cap, outs, deeds, x, rfl, hs, fun hx H1 s1 => ?_, hNB⟩
      have hlv := h4.len
      rw [List.length_map] at hlv
      have hfew := h8.few
      refine ⟨_, rfl, p, _, dx, _, _, _, _, rfl, slt_same s1 h1, T.scls (x := "Sender"), T.slot (x := "Sender") (f := "own_outs") (i := 2), rfl, lo, vs, rfl, .of (s1 _ _ h3), comp_walk (K := K) walk_enum (fun i => (outs[i]?).bind fun o => if (!isOut o x) = true then some (PyData.int (i : Int)) else none) (fun H' sH => .of (sH _ _ (s1 _ _ h3))) (fun D i y H5 H6 nD hi acc hy => ?_) fun D H5 acc => ?_⟩
      · obtain ⟨tp, vi, vx, rfl, ntp, rfl, ei, ex⟩ := hy
        cases ei
        obtain ⟨d, hd, hxd⟩ := h4.get ex
        rw [List.getElem?_map] at hd
        obtain ⟨o, ho, rfl⟩ := Option.map_eq_some_iff.mp hd
        have sn := same_new (o := .tup [.int (i : Nat), vx]) ntp
        have acc2 := acc.same sn
        obtain ⟨b7, rfl, hs7⟩ := outs_tup (hxd.same (s1.trans acc2.1))
        refine ⟨tp, _, rfl, .of upd_same, rfl, _, _, rfl, _, _, rfl, rfl, rfl, ?_⟩
        refine ⟨_, rfl, _, rfl, b7, _, rfl, .inr hs7, rfl, flat_strs o, _, rfl, ?_⟩
        rw [if_pos rfl, inV_str]
        cases c : isOut o x with
        | false => exact iteT ⟨_, rfl, acc2.pushN (d := PyData.int (i : Int)) (by rw [ho]; show (if _ then _ else _) = _; rw [c]; rfl) rfl (.int _) (small1000 (by omega))⟩
        | true => exact iteF (acc2.skip (by rw [ho]; show (if _ then _ else _) = _; rw [c]; rfl))
      · obtain ⟨items, eD, hI⟩ := acc.list
        rw [hlv, keys_fm] at hI
        have ei := ints_nat hI
        subst ei
        exact hB hx H5 D (s1.trans acc.1) (s1.free acc.2.1) eD
theorem ok_S_whoK (T : Txt K mg) : FnK w K mg base (CXE w) 28 d_Sender_who ["self", "number"] ["number"] (spWho K) := by
  have FB := ok_boxes_in (w := w) (base := base) T
  refine fnk (ps := ["self", "number"]) (T.fn 29) sc_Sender_who ?ln ?bd (fun _ _ _ _ _ _ us hl => match us, hl with | [_, _], _ => rfl) (fun _ _ _ _ _ _ us ws h1 h2 => match us, ws, h1, h2 with | [_], [_], _, _ => rfl)
  case ln =>
    rintro _ _ _ _ ⟨p, lo, ld, t, cap, outs, deeds, n, rfl, _⟩
    rfl
  case bd =>
    intro cdv A outer s H vs Q E hr h
    apply bodyX
    case h =>
      exact pss_cons (ps_if (pt_not (pt_chain op_le op_lt pe_int (pv 1) (pe_callB call_len_seq (by rfl) T.free PySem.boot_len (pa_cons (SlX.pe_sl (pv 0)) pa_nil)))) (pss_one (ps_raise rfl pX (mk_NoKey T rfl (hr.mono (Nat.le_refl 27)) (by rfl) (pa_cons (pv 1) pa_nil)))) pss_nil)
        (pss_one (ps_ret (pe_callTy call_tuple_of (by rfl) T.free boot_tuple (pa_cons (pe_lcR (own := [("box", 2)]) (g := gName 2) (by rfl) sc_Sender_who.nd (pi_seq (pe_callB (call_sortS hr.units) (by rfl) T.free boot_sorted (pa_cons (pe_cR FB (hr.mono (by decide)) (by rfl) T.glo (T.kp (d := d_boxes_in) 8) pass0 (pa_cons (SlX.pe_sl (pv 0)) pa_nil)) pa_nil))) (blkOk_by (own := [("box", 2)]) (N := N_Sender_who) (sc := defScope s_Sender_who) (by decide +kernel))
            (fun _ _ _ _ _ => pg_name (i := 2) sc_Sender_who.nd rfl (.inl rfl)) (fun _ _ _ _ _ => pts_one (pt_cmpR (opNotIn K rfl) (pv 2) (pe_ix (ixL K rfl) (peSl K rfl (pv 0)) (pv 1) (fun _ _ => rfl)) (by rfl))) (fun _ _ _ _ _ => pv 2)) pa_nil))))
    case r =>
      obtain ⟨p, lo, ld, t, cap, outs, deeds, n, rfl, hs, hE, hQ⟩ := h
      have ⟨dx, tv, vs, ws, h1, h2, h3, h4, h5, h6, h7, h8⟩ := id hs
      have hlv := h4.len
      rw [List.length_map] at hlv
      have hfew := h8.few
      refine ⟨_, rfl, _, _, rfl, rfl, _, rfl, ?_⟩
      by_cases c1 : (0 : Int) ≤ n
      · rw [decide_eq_true c1]
        refine iteT ⟨_, rfl, p, _, dx, _, _, _, _, rfl, h1, T.scls (x := "Sender"), T.slot (x := "Sender") (f := "own_outs") (i := 2), rfl, lo, vs, rfl, .inl (.of h3), _, _, rfl, rfl, _, rfl, ?_⟩
        rw [hlv]
        by_cases c2 : n < ((outs.length : Nat) : Int)
        · rw [decide_eq_true c2]
          obtain ⟨k, rfl⟩ := Int.eq_ofNat_of_zero_le c1
          have hk : k < outs.length := by omega
          refine iteF ?_
          refine ⟨_, rfl, p, _, dx, _, _, _, _, rfl, h1, T.scls (x := "Sender"), T.slot (x := "Sender") (f := "own_tree") (i := 3), rfl, tv, t.data, t, rfl, h2, smD_ok h8.ok, tupN_T 20 t h8.ok.1, h8.ok, fun H1 v1 s1 d1 => ?_⟩
          obtain ⟨b, rfl, hb⟩ := leaves_sq d1
          have hl100 : t.leaves.length ≤ 100 := by rw [t.len_leaves]; exact h8.ok.2
          refine ⟨b, t.leaves, rfl, hb, by omega, fun q nq => ?_⟩
          have s2 := same_new (o := .lst ((sortS t.leaves).map V.str)) nq
          have e2 : upd H1 q (.lst ((sortS t.leaves).map V.str)) q = some (.lst ((sortS t.leaves).map V.str)) := upd_same
          generalize upd H1 q (.lst ((sortS t.leaves).map V.str)) = H2 at s2 e2 ⊢
          have s12 := s1.trans s2
          obtain ⟨vk, hvk, hdk⟩ := h4.getD (i := k) (d := outD (outs.getD k [])) (by rw [List.getElem?_map, List.getElem?_eq_getElem hk, List.getD_eq_getElem?_getD, List.getElem?_eq_getElem hk]; rfl)
          refine ⟨q, rfl, comp_seq (K := K) (.inl (.of e2)) (fun i => ((sortS t.leaves)[i]?).bind fun y => if (!isOut (outs.getD k []) y) = true then some (PyData.str y) else none) (fun D i y H5 nD hy hi acc => ?_) fun D H5 acc => ?_⟩
          · rw [List.getElem?_map] at hy
            obtain ⟨z, hz, rfl⟩ := Option.map_eq_some_iff.mp hy
            rw [List.length_map, sortS_len] at hi
            have s5 := s12.trans acc.1
            obtain ⟨b7, rfl, hs7⟩ := outs_tup (hdk.same s5)
            refine ⟨rfl, _, rfl, _, rfl, p, _, dx, _, _, _, _, rfl, slt_same s5 h1, T.scls (x := "Sender"), T.slot (x := "Sender") (f := "own_outs") (i := 2), rfl, _, rfl, lo, vs, _, _, rfl, rfl, .of (s5 _ _ h3), atI_nat hvk, b7, _, rfl, .inr hs7, rfl, flat_strs _, _, rfl, ?_⟩
            rw [if_pos rfl, inV_str]
            cases c : isOut (outs.getD k []) z with
            | false => exact iteT ⟨_, rfl, acc.pushN (d := PyData.str z) (by rw [hz]; show (if _ then _ else _) = _; rw [c]; rfl) rfl (.str _) (small1000 (by omega))⟩
            | true => exact iteF (acc.skip (by rw [hz]; show (if _ then _ else _) = _; rw [c]; rfl))
          · obtain ⟨items, eD, hI⟩ := acc.list
            rw [List.length_map, fm_filt] at hI
            have ei := DpAll.strs hI
            subst ei
            refine ⟨D, _, rfl, .inl ⟨.of eD, fun q7 nq7 => ?_⟩⟩
            exact hQ k rfl hk _ _ ((s12.trans acc.1).trans (same_new nq7)) (.strs upd_same)
        · rw [decide_eq_false c2]
          exact iteT ⟨_, rfl, _, rfl, (hE fun z => c2 z.2).go (.refl H)⟩
      · rw [decide_eq_false c1]
        exact iteF ⟨_, rfl, iteT ⟨_, rfl, _, rfl, (hE fun z => c1 z.1).go (.refl H)⟩⟩
theorem ok_S_undo (T : Txt K mg) : FnX w K mg base (CXE w) 28 ("Sender", some "undo") (spUndo K) := by
  refine fnr (ps := ["self"]) (T.fn 31) sc_Sender_undo ?ln ?bd (fun _ _ _ _ _ _ us hl => match us, hl with | [_], _ => rfl)
  case ln =>
    rintro _ _ _ _ ⟨p, lo, ld, t, cap, outs, deeds, rfl, _⟩
    rfl
  case bd =>
    intro cdv A outer s H vs Q E hr h
    apply bodyX
    case h =>
      exact pss_cons (ps_if (pt_cmpR op_eq (pe_callB call_len_seq (by rfl) T.free PySem.boot_len (pa_cons (SlX.pe_sl (pv 0)) pa_nil)) pe_int (nomark _)) (pss_one (ps_raise rfl pX (mk_Nothing T rfl (by rfl)))) pss_nil)
        (pss_cons (ps_expr (pe_bm0 PySem.F.plainAttrs_list PySem.F.slot_list_pop PySem.F.type_list_pop mt_pop (SlX.pe_sl (pv 0))))
        (pss_one (ps_expr (pe_bm0 PySem.F.plainAttrs_list PySem.F.slot_list_pop PySem.F.type_list_pop mt_pop (SlX.pe_sl (pv 0))))))
    case r =>
      obtain ⟨p, lo, ld, t, cap, outs, deeds, rfl, hs, hE, hQ⟩ := h
      obtain ⟨dx, tv, vs, ws, h1, h2, h3, h4, h5, h6, h7, h8⟩ := id hs
      have lv := h4.len
      rw [List.length_map] at lv
      have lw := h6.len
      rw [List.length_map] at lw
      have hlen := h8.len
      refine ⟨_, rfl, p, _, dx, _, _, _, _, rfl, h1, T.scls (x := "Sender"), T.slot (x := "Sender") (f := "own_deeds") (i := 0), rfl, ld, ws, rfl, .inl (.of h5), rfl, _, rfl, ?_⟩
      by_cases c : outs.length = 1
      · rw [show ws.length = 0 by omega]
        exact iteT (hE c H (.refl H))
      · have hw : ws.length ≠ 0 := by omega
        rw [show (decide (V.int (ws.length : Nat) = V.int 0)) = false from decide_eq_false fun z => hw (by have := V.int.inj z; omega)]
        refine iteF ?_
        have sf : Soft H [lo, ld] := soft_ll h3 h5
        have gw : ws[ws.length - 1]? = some (ws[ws.length - 1]'(by omega)) := List.getElem?_eq_getElem (by omega)
        refine ⟨_, rfl, p, _, dx, _, _, _, _, rfl, h1, T.scls (x := "Sender"), T.slot (x := "Sender") (f := "own_deeds") (i := 0), rfl, .inl ⟨rfl, _, .of h5⟩, ld, ws, _, rfl, rfl, h5, gw, ?_⟩
        have k2 : Keep [lo, ld] H (upd H ld (.lst ws.dropLast)) := (Keep.of (.refl H) _).upd (.inl (by simp))
        have h1b := slt_keep k2 sf h1
        have e5b : upd H ld (.lst ws.dropLast) ld = some (.lst ws.dropLast) := upd_same
        have e3b : upd H ld (.lst ws.dropLast) lo = some (.lst vs) := by rw [upd_ne h7]; exact h3
        generalize upd H ld (.lst ws.dropLast) = H2 at k2 h1b e3b e5b ⊢
        have sf2 : Soft H2 [lo, ld] := soft_ll e3b e5b
        have gv : vs[vs.length - 1]? = some (vs[vs.length - 1]'(by omega)) := List.getElem?_eq_getElem (by omega)
        refine ⟨_, rfl, p, _, dx, _, _, _, _, rfl, h1b, T.scls (x := "Sender"), T.slot (x := "Sender") (f := "own_outs") (i := 2), rfl, .inl ⟨rfl, _, .of e3b⟩, lo, vs, _, rfl, rfl, e3b, gv, ?_⟩
        have k3 : Keep [lo, ld] H2 (upd H2 lo (.lst vs.dropLast)) := (Keep.of (.refl H2) _).upd (.inl (by simp))
        have h1c := slt_keep k3 sf2 h1b
        have e3c : upd H2 lo (.lst vs.dropLast) lo = some (.lst vs.dropLast) := upd_same
        have e5c : upd H2 lo (.lst vs.dropLast) ld = some (.lst ws.dropLast) := by rw [upd_ne (Ne.symm h7)]; exact e5b
        generalize upd H2 lo (.lst vs.dropLast) = H3 at k3 h1c e5c e3c ⊢
        have k13 := k2.trans k3
        refine hQ c H3 k13 ⟨dx, tv, _, _, h1c, Dp.keep k13 sf.noTup (noL_T t) h2, e3c, ?_, e5c, ?_, h7, ?_⟩
        · rw [List.map_dropLast]
          exact (DpAll.keep k13 sf.noTup (noLs_outs outs) h4).dropLast
        · rw [List.map_dropLast]
          exact (DpAll.keep k13 sf.noTup (noLs_deeds deeds) h6).dropLast
        · refine ⟨h8.ok, h8.okx, by rw [List.length_dropLast, List.length_dropLast]; omega, by rw [List.length_dropLast]; have := h8.few; omega, fun q hq => h8.sub q (List.dropLast_subset _ hq), fun i q hq => ?_, fun q hq => h8.dd q (List.dropLast_subset _ hq)⟩
          rw [List.getElem?_dropLast] at hq
          split at hq
          · exact h8.idx i q hq
          · cases hq
theorem ok_S_lock (T : Txt K mg) : FnX w K mg base (CXE w) 29 ("Sender", some "lock") (spLock K) := (ok_S_lockK T).fnr
theorem ok_S_let (T : Txt K mg) : FnX w K mg base (CXE w) 29 ("Sender", some "let") (spLet K) := (ok_S_letK T).fnr
theorem ok_S_who (T : Txt K mg) : FnX w K mg base (CXE w) 28 ("Sender", some "who") (spWho K) := (ok_S_whoK T).fnr
end
end K90
end

section
set_option Elab.async false
set_option linter.all false
set_option maxRecDepth 100000
set_option maxHeartbeats 4000000
/-! the law's draws -/
namespace K90
open PySem PySem.Spec PyProof.Rows L2
theorem bt_int : bootBuiltins "int" = some (.type "int") := by kernel_rfl
theorem bt_abs : bootBuiltins "abs" = some (.builtin "abs") := by kernel_rfl
theorem bt_bool : bootBuiltins "bool" = some (.type "bool") := by kernel_rfl
theorem bt_set : bootBuiltins "set" = some (.type "set") := by kernel_rfl
theorem bt_range : bootBuiltins "range" = some (.type "range") := by kernel_rfl
theorem bt_zip : bootBuiltins "zip" = some (.type "zip") := by kernel_rfl
theorem bt_all : bootBuiltins "all" = some (.builtin "all") := by kernel_rfl
def UrnAt (H : Hp) (u : Addr) (n : Nat) : Prop := ∃ a b c : Int, H u = some (.lst [.int a, .int b, .int c]) ∧ 0 ≤ a ∧ 0 ≤ b ∧ b < 2 ^ 62 ∧ 0 ≤ c ∧ c ≤ (n : Int)
theorem UrnAt.mono {H : Hp} {u : Addr} {n m : Nat} (h : UrnAt H u n) (l : n ≤ m) : UrnAt H u m := by
  obtain ⟨a, b, c, h1, h2, h3, h4, h5, h6⟩ := h
  exact ⟨a, b, c, h1, h2, h3, h4, h5, by omega⟩
theorem UrnAt.same {H H' : Hp} {u : Addr} {n : Nat} (s : Same H H') (h : UrnAt H u n) : UrnAt H' u n := by
  obtain ⟨a, b, c, h1, h2⟩ := h
  exact ⟨a, b, c, s _ _ h1, h2⟩
theorem UrnAt.keep {H H' : Hp} {l : List Addr} {u : Addr} {n : Nat} (k : Keep l H H') (nu : u ∉ l) (h : UrnAt H u n) : UrnAt H' u n := by
  obtain ⟨a, b, c, h1, h2⟩ := h
  exact ⟨a, b, c, k _ _ h1 nu, h2⟩
theorem UrnAt.soft {H : Hp} {u : Addr} {n : Nat} (h : UrnAt H u n) : Soft H [u] := by
  obtain ⟨a, b, c, h1, h2⟩ := h
  exact .one h1
def spBox (K : PySem.W.Frag) : Sp := fun vs H Q _ => ∃ (a : Addr) (ns : List Int) (k : Nat), vs = [.ref a, .int (k : Nat)] ∧ SqL K H a (ns.map V.int) ∧ k < ns.length ∧ k < 2 ∧ ∀ H' u, Same H H' → H u = none → UrnAt H' u 0 → Q (.ref u) H'
def spTake (K : PySem.W.Frag) : Sp := fun vs H Q _ => ∃ (u : Addr) (m : Int) (n : Nat), vs = [.ref u, .int m] ∧ UrnAt H u n ∧ n < 2 ^ 30 ∧ 0 < m ∧ m < 2 ^ 30 ∧ ∀ H' d, Keep [u] H H' → UrnAt H' u (n + 1) → 0 ≤ d → d < m → Q (.int d) H'
theorem mod_pos (i : Int) {m : Int} (h : 0 < m) : 0 ≤ i % m ∧ i % m < m := ⟨Int.emod_nonneg i (by omega), Int.emod_lt_of_pos i h⟩
section
variable {w : World} {K : PySem.W.Frag} {mg : Str → Option Value} {base : Heap}
theorem ok_L_take (T : Txt K mg) : FnX w K mg base CX0 1 ("_law_take", none) (spTake K) := by
  refine fnr (ps := ["_law_urn", "_law_low_so"]) (T.fn 34) sc_L_take ?ln ?bd (fun _ _ _ _ _ _ us hl => match us, hl with | [_, _], _ => rfl)
  case ln =>
    rintro _ _ _ _ ⟨u, m, n, rfl, _⟩
    rfl
  case bd =>
    intro cdv A outer s H vs Q E hr h
    apply bodyN
    case h =>
      exact pss_cons (ps_if (pt_cmpR op_gt (pe_ix ix_list (pv 0) pe_int (fun _ _ => rfl)) pe_int (nomark _))
          (pss_cons (ps_set (i := 2) sc_L_take.nd rfl (.inl rfl) (pe_op op_mod (pe_callTy call_int1 (by rfl) T.free bt_int (pa_cons (pe_ix ix_list (pv 0) pe_int (fun _ _ => rfl)) pa_nil)) (pv 1)))
            (pss_cons (ps_asg (pe_op op_fdiv (pe_ix ix_list (pv 0) pe_int (fun _ _ => rfl)) (pv 1)) (pg_sub (pv 0) pe_int set_list)) (pss_one (ps_ret (pv 2))))) pss_nil)
        (pss_cons (ps_asg (pe_op op_add (pe_ix ix_list (pv 0) pe_int (fun _ _ => rfl)) pe_int) (pg_sub (pv 0) pe_int set_list))
        (pss_cons (ps_set (i := 3) sc_L_take.nd rfl (.inl rfl) (pe_op op_mod (pe_callTy call_int1 (by rfl) T.free bt_int (pa_cons (pe_op op_mul (pe_op op_add (pe_ix ix_list (pv 0) pe_int (fun _ _ => rfl)) (pe_op op_mul pe_int (pe_ix ix_list (pv 0) pe_int (fun _ _ => rfl)))) (pe_op op_add pe_int (pe_ix ix_list (pv 0) pe_int (fun _ _ => rfl)))) pa_nil)) pe_int))
        (pss_cons (ps_set (i := 4) sc_L_take.nd rfl (.inl rfl) (pe_op op_add (pe_op op_mod (pe_callTy call_int1 (by rfl) T.free bt_int (pa_cons (pv 3) pa_nil)) pe_int) pe_int))
        (pss_cons (ps_set (i := 5) sc_L_take.nd rfl (.inl rfl) (pe_op op_mod (pe_callTy call_int1 (by rfl) T.free bt_int (pa_cons (pe_op op_mul (pe_op op_add (pe_op op_add (pv 3) (pe_ix ix_list (pv 0) pe_int (fun _ _ => rfl))) (pe_op op_fdiv (pe_ix ix_list (pv 0) pe_int (fun _ _ => rfl)) pe_int)) (pv 4)) pa_nil)) pe_int))
        (pss_one (ps_ret (pe_op op_mod (pe_callTy call_int1 (by rfl) T.free bt_int (pa_cons (pe_op op_fdiv (pe_op op_mod (pe_callTy call_int1 (by rfl) T.free bt_int (pa_cons (pe_op op_add (pe_op op_mul (pv 5) pe_int) (pv 3)) pa_nil)) pe_int) pe_int) pa_nil)) (pv 1))))))))
    case r =>
      obtain ⟨u, m, n, rfl, hu, hn, hm, hm2, hQ⟩ := h
      obtain ⟨a, b, c, h1, ha, hb, hb2, hc, hc2⟩ := id hu
      have small : ∀ x : Int, 0 ≤ x → x < 2 ^ 62 → -(2 ^ 64) < x ∧ x < 2 ^ 64 := fun x h1 h2 => ⟨by omega, by omega⟩
      refine ⟨_, rfl, u, _, 0, _, rfl, rfl, .of h1, atI_nat (j := 0) rfl, _, _, rfl, rfl, _, rfl, ?_⟩
      by_cases c0 : a > 0
      · rw [decide_eq_true c0]
        refine iteT ⟨_, rfl, u, _, 0, _, rfl, rfl, .of h1, atI_nat (j := 0) rfl, .inl ⟨_, rfl, _, rfl, _, _, rfl, rfl, hm, ?_⟩⟩
        refine ⟨_, rfl, u, _, 0, _, rfl, rfl, .of h1, atI_nat (j := 0) rfl, _, rfl, _, _, rfl, rfl, ⟨hm, by omega⟩, _, rfl, u, _, 0, 0, rfl, rfl, h1, rfl, ?_⟩
        obtain ⟨m1, m2⟩ := mod_pos a hm
        exact ⟨_, rfl, hQ _ _ ((Keep.of (.refl H) _).upd (.inl (by simp))) ⟨_, b, c, upd_same, Int.ediv_nonneg ha (by omega), hb, hb2, hc, by omega⟩ m1 m2⟩
      · rw [decide_eq_false c0]
        refine iteF ?_
        refine ⟨_, rfl, u, _, 2, _, rfl, rfl, .of h1, atI_nat (j := 2) rfl, _, _, rfl, rfl, _, rfl, u, _, 2, 2, rfl, rfl, h1, rfl, ?_⟩
        have h2 : upd H u (.lst ([V.int a, V.int b, V.int c].set 2 (V.int (c + 1)))) u = some (.lst [.int a, .int b, .int (c + 1)]) := upd_same
        have k2 : Keep [u] H (upd H u (.lst ([V.int a, V.int b, V.int c].set 2 (V.int (c + 1))))) := (Keep.of (.refl H) _).upd (.inl (by simp))
        generalize upd H u (.lst ([V.int a, V.int b, V.int c].set 2 (V.int (c + 1)))) = H2 at h2 k2 ⊢
        have U2 : UrnAt H2 u (n + 1) := ⟨a, b, c + 1, h2, ha, hb, hb2, by omega, by omega⟩
        refine ⟨_, rfl, u, _, 1, _, rfl, rfl, .of h2, atI_nat (j := 1) rfl, _, rfl, u, _, 2, _, rfl, rfl, .of h2, atI_nat (j := 2) rfl, _, _, rfl, rfl, .inl ⟨by omega, by omega⟩, _, _, rfl, rfl, ?_⟩
        refine ⟨_, rfl, u, _, 2, _, rfl, rfl, .of h2, atI_nat (j := 2) rfl, _, _, rfl, rfl, _, _, rfl, rfl, .inr ⟨by omega, by omega⟩, .inl ⟨_, rfl, _, _, rfl, rfl, by omega, ?_⟩⟩
        generalize ho : (b + 48271 * (c + 1)) * (39373 + (c + 1)) % 2147483647 = once
        have ho2 := mod_pos ((b + 48271 * (c + 1)) * (39373 + (c + 1))) (m := 2147483647) (by omega)
        rw [ho] at ho2
        refine ⟨_, rfl, .inl ⟨_, rfl, _, _, rfl, rfl, by omega, _, _, rfl, rfl, ?_⟩⟩
        have hf := mod_pos once (m := 40009) (by omega)
        refine ⟨_, rfl, _, rfl, u, _, 2, _, rfl, rfl, .of h2, atI_nat (j := 2) rfl, _, _, rfl, rfl, _, rfl, u, _, 1, _, rfl, rfl, .of h2, atI_nat (j := 1) rfl, _, _, rfl, rfl, ⟨by omega, by omega⟩, _, _, rfl, rfl, _, rfl, _, _, rfl, rfl, .inr ⟨by omega, by omega⟩, .inl ⟨_, rfl, _, _, rfl, rfl, by omega, ?_⟩⟩
        generalize ht : (once + (c + 1) + b / 1000003) * (once % 40009 + 7) % 2147483629 = twice
        have ht2 := mod_pos ((once + (c + 1) + b / 1000003) * (once % 40009 + 7)) (m := 2147483629) (by omega)
        rw [ht] at ht2
        refine ⟨_, rfl, _, _, rfl, rfl, .inr ⟨by omega, by omega⟩, _, rfl, _, _, rfl, rfl, .inl ⟨_, rfl, _, _, rfl, rfl, by omega, _, _, rfl, rfl, ⟨by omega, by omega⟩, .inl ⟨_, rfl, _, rfl, _, _, rfl, rfl, hm, ?_⟩⟩⟩
        exact hQ H2 _ k2 U2 (mod_pos _ hm).1 (mod_pos _ hm).2
theorem ok_L_box (T : Txt K mg) : FnX w K mg base CX0 1 ("_law_box", none) (spBox K) := by
  refine fnr (ps := ["_law_script", "_law_k"]) (T.fn 33) sc_L_box ?ln ?bd (fun _ _ _ _ _ _ us hl => match us, hl with | [_, _], _ => rfl)
  case ln =>
    rintro _ _ _ _ ⟨a, ns, k, rfl, _⟩
    rfl
  case bd =>
    intro cdv A outer s H vs Q E hr h
    apply bodyN
    case h =>
      exact pss_cons (ps_set (i := 2) sc_L_box.nd rfl (.inl rfl) (pe_ifExp (pt_cmpR op_lt (pv 1) (pe_callB call_len_seq (by rfl) T.free PySem.boot_len (pa_cons (pv 0) pa_nil)) (nomark _)) (pe_ix ix_list (pv 0) (pv 1) (fun _ _ => rfl)) pe_int))
        (pss_one (ps_ret (pe_lst (pa_cons (pe_op op_mul (pe_callB call_abs (by rfl) T.free bt_abs (pa_cons (pv 2) pa_nil)) (pe_callTy call_int1 (by rfl) T.free bt_int (pa_cons (pe_cmpR op_ge (pe_callB call_abs (by rfl) T.free bt_abs (pa_cons (pv 2) pa_nil)) (pe_op op_pow pe_int pe_int) (nomark _)) pa_nil)))
          (pa_cons (pe_op op_add (pe_op op_add (pe_op op_mod (pe_callTy call_int1 (by rfl) T.free bt_int (pa_cons (pv 2) pa_nil)) pe_int) (pe_op op_mul pe_int (pv 1))) pe_int) (pa_cons pe_int pa_nil))))))
    case r =>
      obtain ⟨a, ns, k, rfl, hs, hk, hk2, hQ⟩ := h
      refine ⟨_, rfl, _, rfl, a, _, rfl, .inl hs, _, _, rfl, rfl, _, rfl, ?_⟩
      rw [decide_eq_true (by rw [List.length_map]; omega)]
      have hg : (ns.map V.int)[k]? = some (V.int ns[k]) := by rw [List.getElem?_map, List.getElem?_eq_getElem hk]; rfl
      refine iteT ⟨_, rfl, _, rfl, a, _, _, _, rfl, rfl, hs, atI_nat hg, ?_⟩
      generalize ns[k] = c
      refine ⟨_, rfl, c, rfl, ?_⟩
      refine ⟨_, rfl, c, rfl, _, _, rfl, rfl, ⟨by omega, by omega, by decide⟩, _, _, rfl, rfl, .inr ⟨_, rfl, ?_⟩⟩
      refine ⟨_, _, rfl, rfl, .inr ⟨by split <;> omega, by split <;> omega⟩, _, rfl, .inl ⟨_, rfl, _, _, rfl, rfl, by omega, _, rfl, _, _, rfl, rfl, .inl ⟨by omega, by omega⟩, _, _, rfl, rfl, _, _, rfl, rfl, ?_⟩⟩
      have hm := mod_pos c (m := 2305843009213693951) (by omega)
      refine ⟨by show 3 ≤ sizeLine; decide, fun u nu => hQ _ _ (same_new nu) nu ⟨_, _, 0, upd_same, Int.mul_nonneg (by split <;> omega) (by split <;> omega), ?_, ?_, by omega, by omega⟩⟩
      · omega
      · omega
end
end K90
end

section
set_option Elab.async false
set_option linter.all false
set_option maxRecDepth 100000
set_option maxHeartbeats 4000000
/-! the law's trees -/
namespace K90
open PySem PySem.Spec PyProof.Rows L2
theorem erase_perm {α : Type} : ∀ (l : List α) (k : Nat) (y : α), l[k]? = some y → l.Perm (y :: l.eraseIdx k)
  | [], _, _, h => by simp at h
  | x :: l, 0, y, h => by
    have e : x = y := Option.some.inj h
    subst e
    exact .refl _
  | x :: l, k + 1, y, h => by
    have ih := erase_perm l k y (by simpa using h)
    exact (ih.cons x).trans (.swap y x _)
theorem map_erase {α β : Type} (f : α → β) : ∀ (l : List α) (k : Nat), (l.map f).eraseIdx k = (l.eraseIdx k).map f
  | [], _ => rfl
  | _ :: _, 0 => rfl
  | x :: l, k + 1 => by
    show f x :: (l.map f).eraseIdx k = f x :: (l.eraseIdx k).map f
    rw [map_erase f l k]
theorem seqIdx_nat {k n : Nat} (h : k < n) : seqIndex? (k : Int) n = some k := by
  unfold seqIndex?
  simp
  omega
def poolL : List Str := ["a", "ab", "b", "c", "cc", "d", "e", "f", "g", "key", "m", "n", "x", "y", "z", "zzzzzzzz"]
theorem pool_nodup : poolL.Nodup := by decide +kernel
theorem cut_to {xs : List V} {k : Nat} (h : k ≤ xs.length) : cutV xs none (some (k : Int)) = xs.take k := by
  unfold cutV
  rw [HT.sIx_none, HT.sIx_nat, Nat.min_eq_left h]
  rfl
theorem cut_from {xs : List V} {k : Nat} (h : k ≤ xs.length) : cutV xs (some (k : Int)) none = xs.drop k := by
  unfold cutV
  rw [HT.sIx_none, HT.sIx_nat, Nat.min_eq_left h]
  exact List.take_of_length_le (by rw [List.length_drop]; omega)
def spOf (K : PySem.W.Frag) : Sp := fun vs H Q _ => ∃ (u l : Addr) (n : Nat) (xs : List Str), vs = [.ref u, .ref l] ∧ UrnAt H u n ∧ n < 2 ^ 30 ∧ H l = some (.lst (xs.map V.str)) ∧ l ≠ u ∧ xs ≠ [] ∧ xs.length < 1000 ∧
  ∀ H' x, Keep [u] H H' → UrnAt H' u (n + 1) → x ∈ xs → Q (.str x) H'
def spWords (K : PySem.W.Frag) : Sp := fun vs H Q _ => ∃ (u : Addr) (m n : Nat), vs = [.ref u, .int (m : Int)] ∧ UrnAt H u n ∧ n + m < 2 ^ 30 ∧ m ≤ 16 ∧
  ∀ (H' : Hp) (l : Addr) (ws : List Str), Keep [u] H H' → UrnAt H' u (n + m) → H l = none → H' l = some (.lst (ws.map V.str)) → ws.length = m → ws.Nodup → (∀ x ∈ ws, x ∈ poolL) → Q (.ref l) H'
def spShape (K : PySem.W.Frag) (f : Nat) : Sp := fun vs H Q _ => ∃ (u l : Addr) (n : Nat) (ws : List Str), vs = [.ref u, .ref l] ∧ UrnAt H u n ∧ n + ws.length < 2 ^ 30 ∧ H l = some (.lst (ws.map V.str)) ∧ l ≠ u ∧ 0 < ws.length ∧ ws.length ≤ f + 1 ∧ ws.length ≤ 16 ∧
  ∀ (H' : Hp) (v : V) (t : T), Keep [u] H H' → UrnAt H' u (n + (ws.length - 1)) → Dp K H' v t.data → t.leaves = ws → t.dp + 1 ≤ ws.length → Q v H'
def spTale (K : PySem.W.Frag) : Sp := fun vs H Q _ => ∃ (u : Addr) (n : Nat), vs = [.ref u, .int 10] ∧ UrnAt H u n ∧ n + 30 < 2 ^ 30 ∧
  ∀ (H' : Hp) (v : V) (t : T), Keep [u] H H' → UrnAt H' u (n + 30) → Dp K H' v t.data → t.leaves.Nodup → (∀ x ∈ t.leaves, x ∈ poolL) → t.dp ≤ 10 → t.size ≤ 10 → Q v H'
section
variable {w : World} {K : PySem.W.Frag} {mg : Str → Option Value} {base : Heap}
theorem ok_L_of (T : Txt K mg) : FnX w K mg base CX0 2 ("_law_of", none) (spOf K) := by
  have FT := ok_L_take (w := w) (base := base) T
  refine fnr (ps := ["_law_urn", "_law_some"]) (T.fn 36) sc_L_of ?ln ?bd (fun _ _ _ _ _ _ us hl => match us, hl with | [_, _], _ => rfl)
  case ln =>
    rintro _ _ _ _ ⟨u, l, n, xs, rfl, _⟩
    rfl
  case bd =>
    intro cdv A outer s H vs Q E hr h
    apply bodyN
    case h => exact pss_one (ps_ret (pe_ix ix_list (pv 1) (pe_cR FT hr (by rfl) T.glo (T.kp (d := d_L_take) 34) pass0 (pa_cons (pv 0) (pa_cons (pe_callB call_len_seq (by rfl) T.free PySem.boot_len (pa_cons (pv 1) pa_nil)) pa_nil))) (fun _ _ => rfl)))
    case r =>
      obtain ⟨u, l, n, xs, rfl, hu, hn, hl, hne, hx, hz, hQ⟩ := h
      have hp : 0 < xs.length := List.length_pos_iff.mpr hx
      refine ⟨_, rfl, _, rfl, _, rfl, l, _, rfl, .inl (.of hl), u, _, n, rfl, hu, hn, by rw [List.length_map]; omega, by rw [List.length_map]; omega, fun H1 d k1 U1 d0 d1 => ?_⟩
      obtain ⟨k, rfl⟩ := Int.eq_ofNat_of_zero_le d0
      rw [List.length_map] at d1
      have hk : k < xs.length := by omega
      have hg : (xs.map V.str)[k]? = some (V.str xs[k]) := by rw [List.getElem?_map, List.getElem?_eq_getElem hk]; rfl
      exact ⟨l, _, _, _, rfl, rfl, .of (k1 _ _ hl (by simpa using hne)), atI_nat hg, hQ H1 _ k1 U1 (List.getElem_mem hk)⟩
theorem ok_L_words (T : Txt K mg) : FnX w K mg base CX0 2 ("_law_words", none) (spWords K) := by
  have FT := ok_L_take (w := w) (base := base) T
  refine fnr (ps := ["_law_urn", "_law_many_so"]) (T.fn 39) sc_L_words ?ln ?bd (fun _ _ _ _ _ _ us hl => match us, hl with | [_, _], _ => rfl)
  case ln =>
    rintro _ _ _ _ ⟨u, m, n, rfl, _⟩
    rfl
  case bd =>
    intro cdv A outer s H vs Q E hr h
    apply bodyN
    case h =>
      apply pss_cons
      · exact (ps_par (i := 2) (j := 3) (by rfl) sc_L_words.nd rfl rfl (by decide) rfl rfl (pa_cons (pe_lst (pa_cons pe_str (pa_cons pe_str (pa_cons pe_str (pa_cons pe_str (pa_cons pe_str (pa_cons pe_str (pa_cons pe_str (pa_cons pe_str (pa_cons pe_str (pa_cons pe_str (pa_cons pe_str (pa_cons pe_str (pa_cons pe_str (pa_cons pe_str (pa_cons pe_str (pa_cons pe_str pa_nil)))))))))))))))))
          (pa_cons (pe_lst pa_nil) pa_nil)) (by rfl))
      apply pss_cons
      · apply ps_for PassesOwn.never rfl
        · exact pi_range1 (by rfl) T.free (pa_cons (pv 1) pa_nil)
        · exact (pg_name (i := 4) sc_L_words.nd rfl (.inl rfl))
        · exact (pss_one (ps_expr (pe_bm PySem.F.plainAttrs_list PySem.F.slot_list_append PySem.F.type_list_append mt_append (pv 3)
            (pa_cons (pe_bm PySem.F.plainAttrs_list PySem.F.slot_list_pop PySem.F.type_list_pop mt_popAt (pv 2) (pa_cons (pe_cR FT hr (by rfl) T.glo (T.kp (d := d_L_take) 34) pass0 (pa_cons (pv 0) (pa_cons (pe_callB call_len_seq (by rfl) T.free PySem.boot_len (pa_cons (pv 2) pa_nil)) pa_nil))) pa_nil)) pa_nil))))
      · exact (pss_one (ps_ret (pv 3)))
    case r =>
      obtain ⟨u, m, n, rfl, hu, hn, hm, hQ⟩ := h
      refine ⟨by show 16 ≤ sizeLine; decide, fun lp nlp => ⟨by show 0 ≤ sizeLine; decide, fun lf nlf => ?_⟩⟩
      have lpf : lf ≠ lp := fun z => by rw [z, upd_same] at nlf; cases nlf
      have nlf' : H lf = none := by rw [← nlf, upd_ne lpf]
      have hU : ∃ o, H u = some o := by
        obtain ⟨a, b, c, e, _⟩ := hu
        exact ⟨_, e⟩
      have lpu : lp ≠ u := fun z => by obtain ⟨o, e⟩ := hU; rw [← z, nlp] at e; cases e
      have lfu : lf ≠ u := fun z => by obtain ⟨o, e⟩ := hU; rw [← z, nlf'] at e; cases e
      refine ⟨_, _, rfl, ?_⟩
      have s1 : Same H (upd (upd H lp (.lst (poolL.map V.str))) lf (.lst [])) := same_new2 (same_new nlp) nlf
      have e1 : upd (upd H lp (.lst (poolL.map V.str))) lf (.lst []) lp = some (.lst (poolL.map V.str)) := by rw [upd_ne (Ne.symm lpf), upd_same]
      have e2 : upd (upd H lp (.lst (poolL.map V.str))) lf (.lst []) lf = some (.lst []) := upd_same
      refine ⟨_, rfl, (m : Int), rfl, by omega, by omega, ?_⟩
      refine for_range (n := ((m : Nat) : Int).toNat) (fun i σ' H' => ∃ (P F : List Str) (xv : Option V), σ' = [some (.ref u), some (.int (m : Int)), some (.ref lp), some (.ref lf), xv] ∧ Keep [u] H H' ∧ UrnAt H' u (n + i) ∧ H' lp = some (.lst (P.map V.str)) ∧ H' lf = some (.lst (F.map V.str)) ∧ F.length = i ∧ (F ++ P).Perm poolL)
        ⟨poolL, [], none, rfl, .of s1 _, hu.same s1, e1, e2, rfl, .refl _⟩ (fun i σ' H' hi ⟨P, F, xv, eσ, kH, U, eP, eF, lF, pm⟩ => ?_) (fun σ' H' ⟨P, F, xv, eσ, kH, U, eP, eF, lF, pm⟩ => ?_)
      · subst eσ
        rw [Int.toNat_natCast] at hi
        have lpm := pm.length_eq
        rw [List.length_append] at lpm
        have lP : poolL.length = 16 := rfl
        refine ⟨_, rfl, .inl ⟨rfl, _, .of eF⟩, _, rfl, .inl ⟨rfl, _, .of eP⟩, _, rfl, _, rfl, lp, _, rfl, .inl (.of eP), u, _, n + i, rfl, U, by omega, by rw [List.length_map]; omega, by rw [List.length_map]; omega, fun H2 d k2 U2 d0 d1 => ?_⟩
        obtain ⟨k, rfl⟩ := Int.eq_ofNat_of_zero_le d0
        rw [List.length_map] at d1
        have hk : k < P.length := by omega
        have hg : (P.map V.str)[k]? = some (V.str P[k]) := by rw [List.getElem?_map, List.getElem?_eq_getElem hk]; rfl
        have eP2 := k2 _ _ eP (by simpa using lpu)
        have eF2 := k2 _ _ eF (by simpa using lfu)
        refine ⟨lp, _, (k : Int), k, _, rfl, rfl, eP2, by omega, by omega, ?_, hg, ?_⟩
        · rw [List.length_map]
          exact seqIdx_nat hk
        · have eF3 : upd H2 lp (.lst ((P.map V.str).eraseIdx k)) lf = some (.lst (F.map V.str)) := by rw [upd_ne lpf]; exact eF2
          refine ⟨lf, _, _, rfl, rfl, eF3, small1000 (by rw [List.length_map]; omega), P.eraseIdx k, F ++ [P[k]], _, rfl, ?_, ?_, ?_, ?_, ?_, ?_⟩
          · exact ((kH.trans k2).upd (.inr nlp)).upd (.inr nlf')
          · exact (U2.keep (l := [lp]) ((Keep.of (.refl H2) _).upd (.inl (by simp))) (by simpa using (Ne.symm lpu))).keep (l := [lf]) ((Keep.of (.refl _) _).upd (.inl (by simp))) (by simpa using (Ne.symm lfu))
          · rw [upd_ne (Ne.symm lpf), upd_same, map_erase]
          · rw [upd_same, List.map_append]
            rfl
          · rw [List.length_append, lF]
            rfl
          · refine List.Perm.trans ?_ pm
            rw [List.append_assoc]
            exact (erase_perm P k P[k] (List.getElem?_eq_getElem hk)).symm.append_left F
      · subst eσ
        rw [Int.toNat_natCast] at U lF
        have nd : (F ++ P).Nodup := pm.nodup_iff.mpr pool_nodup
        exact ⟨_, rfl, hQ H' lf F kH U nlf' eF lF (List.nodup_append.mp nd).1 fun x hx => pm.mem_iff.mp (List.mem_append_left _ hx)⟩
def spShapeI (K : PySem.W.Frag) : Nat → Sp
  | 0 => fun _ _ _ _ => False
  | f + 1 => spShape K f
theorem ok_shape_step (T : Txt K mg) (f : Nat) (ih : FnX w K mg base CX0 (f + 1) ("_law_shape", none) (spShapeI K f)) : FnX w K mg base CX0 (f + 2) ("_law_shape", none) (spShape K f) := by
  have FT := ok_L_take (w := w) (base := base) T
  refine fnr (ps := ["_law_urn", "_law_row"]) (T.fn 40) sc_L_shape ?ln ?bd (fun _ _ _ _ _ _ us hl => match us, hl with | [_, _], _ => rfl)
  case ln =>
    rintro _ _ _ _ ⟨u, l, n, ws, rfl, _⟩
    rfl
  case bd =>
    intro cdv A outer s H vs Q E hr h
    apply bodyN
    case h =>
      exact pss_cons (ps_if (pt_cmpR op_eq (pe_callB call_len_seq (by rfl) T.free PySem.boot_len (pa_cons (pv 1) pa_nil)) pe_int (nomark _)) (pss_one (ps_ret (pe_ix ix_list (pv 1) pe_int (fun _ _ => rfl)))) pss_nil)
        (pss_cons (ps_set (i := 2) sc_L_shape.nd rfl (.inl rfl) (pe_op op_add pe_int (pe_cR FT (hr.mono (by omega)) (by rfl) T.glo (T.kp (d := d_L_take) 34) pass0 (pa_cons (pv 0) (pa_cons (pe_op op_sub (pe_callB call_len_seq (by rfl) T.free PySem.boot_len (pa_cons (pv 1) pa_nil)) pe_int) pa_nil)))))
        (pss_cons (ps_set (i := 3) sc_L_shape.nd rfl (.inl rfl) (pe_cR ih hr (by rfl) T.glo (T.kp (d := d_L_shape) 40) pass0 (pa_cons (pv 0) (pa_cons (pe_slice sl_list (pv 1) po_none (po_some (pv 2))) pa_nil))))
        (pss_one (ps_ret (pe_tup (pa_cons (pv 3) (pa_cons (pe_cR ih hr (by rfl) T.glo (T.kp (d := d_L_shape) 40) pass0 (pa_cons (pv 0) (pa_cons (pe_slice sl_list (pv 1) (po_some (pv 2)) po_none) pa_nil))) pa_nil)))))))
    case r =>
      obtain ⟨u, l, n, ws, rfl, hu, hn, hl, hne, hp, hf, h16, hQ⟩ := h
      refine ⟨_, rfl, l, _, rfl, .inl (.of hl), rfl, _, rfl, ?_⟩
      rw [List.length_map]
      by_cases c : ws.length = 1
      · rw [show (decide (V.int (ws.length : Nat) = V.int 1)) = true from by rw [c]; rfl]
        obtain ⟨x, rfl⟩ := List.length_eq_one_iff.mp c
        exact iteT ⟨_, rfl, l, _, 0, _, rfl, rfl, .of hl, atI_nat (j := 0) rfl, hQ H _ (.leaf x) (.of (.refl H) _) (hu.mono (by omega)) (.str x) rfl (by show 0 + 1 ≤ 1; omega)⟩
      · rw [show (decide (V.int (ws.length : Nat) = V.int 1)) = false from decide_eq_false fun z => c (by have := V.int.inj z; omega)]
        refine iteF ⟨_, rfl, _, rfl, l, _, rfl, .inl (.of hl), _, _, rfl, rfl, ?_⟩
        rw [List.length_map]
        refine ⟨u, _, n, rfl, hu, by omega, by omega, by omega, fun H1 d k1 U1 d0 d1 => ?_⟩
        obtain ⟨j, rfl⟩ := Int.eq_ofNat_of_zero_le d0
        have hj : 1 + j < ws.length := by omega
        have hl1 := k1 _ _ hl (by simpa using hne)
        refine ⟨_, _, rfl, rfl, ?_⟩
        have ec : (1 : Int) + ((j : Nat) : Int) = ((1 + j : Nat) : Int) := by omega
        simp only [ec]
        refine ⟨_, rfl, _, rfl, _, rfl, _, rfl, l, _, rfl, .of hl1, fun p np => ?_⟩
        rw [cut_to (by rw [List.length_map]; omega), ← List.map_take]
        have s2 : Same H1 (upd H1 p (.lst ((ws.take (1 + j)).map V.str))) := same_new np
        have e2 : upd H1 p (.lst ((ws.take (1 + j)).map V.str)) p = some (.lst ((ws.take (1 + j)).map V.str)) := upd_same
        have pu : p ≠ u := fun z => by obtain ⟨a, b, cc, e, _⟩ := U1; rw [← z, np] at e; cases e
        generalize upd H1 p (.lst ((ws.take (1 + j)).map V.str)) = H2 at s2 e2 ⊢
        have lt : (ws.take (1 + j)).length = 1 + j := by rw [List.length_take]; omega
        cases f with
        | zero => omega
        | succ f =>
        refine ⟨u, p, n + 1, ws.take (1 + j), rfl, U1.same s2, by omega, e2, pu, by omega, by omega, by omega, fun H3 v3 t3 k3 U3 d3 l3 dp3 => ?_⟩
        have hl3 := k3 _ _ (s2 _ _ hl1) (by simpa using hne)
        refine ⟨_, rfl, _, rfl, _, rfl, _, rfl, _, rfl, l, _, rfl, .of hl3, fun p4 np4 => ?_⟩
        rw [cut_from (by rw [List.length_map]; omega), ← List.map_drop]
        have s4 : Same H3 (upd H3 p4 (.lst ((ws.drop (1 + j)).map V.str))) := same_new np4
        have e4 : upd H3 p4 (.lst ((ws.drop (1 + j)).map V.str)) p4 = some (.lst ((ws.drop (1 + j)).map V.str)) := upd_same
        have pu4 : p4 ≠ u := fun z => by obtain ⟨a, b, cc, e, _⟩ := U3; rw [← z, np4] at e; cases e
        generalize upd H3 p4 (.lst ((ws.drop (1 + j)).map V.str)) = H4 at s4 e4 ⊢
        have ld : (ws.drop (1 + j)).length = ws.length - (1 + j) := List.length_drop
        have U3b : UrnAt H3 u (n + 1 + j) := U3.mono (by omega)
        refine ⟨u, p4, n + 1 + j, ws.drop (1 + j), rfl, U3b.same s4, by omega, e4, pu4, by omega, by omega, by omega, fun H5 v5 t5 k5 U5 d5 l5 dp5 => ?_⟩
        refine ⟨by show 2 ≤ sizeLine; decide, fun q nq => ?_⟩
        have s6 : Same H5 (upd H5 q (.tup [v3, v5])) := same_new nq
        have k35 : Keep [u] H3 H5 := (Keep.of s4 _).trans k5
        have k05 : Keep [u] H H5 := ((k1.trans (Keep.of s2 _)).trans k3).trans k35
        have d3' : Dp K H5 v3 t3.data := Dp.keep k35 (U3.soft).noTup (noL_T _) d3
        refine hQ _ _ (.node t3 t5) (k05.trans (.of s6 _)) ((U5.mono (by rw [ld]; omega)).same s6) (.tupM upd_same (.cons (d3'.same s6) (.cons (d5.same s6) .nil))) ?_ ?_
        · show t3.leaves ++ t5.leaves = ws
          rw [l3, l5, List.take_append_drop]
        · show max t3.dp t5.dp + 1 + 1 ≤ ws.length
          omega
theorem ok_L_shape (T : Txt K mg) : ∀ f, FnX w K mg base CX0 (f + 2) ("_law_shape", none) (spShape K f)
  | 0 => ok_shape_step T 0 fun _ _ _ _ _ _ _ _ _ _ _ h => h.elim
  | f + 1 => ok_shape_step T (f + 1) (ok_L_shape T f)
theorem ok_L_tale (T : Txt K mg) : FnX w K mg base CX0 18 ("_law_tale", none) (spTale K) := by
  have FT := ok_L_take (w := w) (base := base) T
  have FW := ok_L_words (w := w) (base := base) T
  have FS := ok_L_shape (w := w) (base := base) T 15
  refine fnr (ps := ["_law_urn", "_law_top"]) (T.fn 41) sc_L_tale ?ln ?bd (fun _ _ _ _ _ _ us hl => match us, hl with | [_, _], _ => rfl)
  case ln =>
    rintro _ _ _ _ ⟨u, n, rfl, _⟩
    rfl
  case bd =>
    intro cdv A outer s H vs Q E hr h
    apply bodyN
    case h =>
      exact pss_one (ps_ret (pe_cR FS hr (by rfl) T.glo (T.kp (d := d_L_shape) 40) pass0 (pa_cons (pv 0) (pa_cons (pe_cR FW (hr.mono (by decide)) (by rfl) T.glo (T.kp (d := d_L_words) 39) pass0 (pa_cons (pv 0) (pa_cons (pe_op op_add pe_int (pe_cR FT (hr.mono (by decide)) (by rfl) T.glo (T.kp (d := d_L_take) 34) pass0 (pa_cons (pv 0) (pa_cons (pv 1) pa_nil)))) pa_nil))) pa_nil))))
    case r =>
      obtain ⟨u, n, rfl, hu, hn, hQ⟩ := h
      refine ⟨_, rfl, _, rfl, _, rfl, _, rfl, u, _, n, rfl, hu, by omega, by omega, by omega, fun H1 d k1 U1 d0 d1 => ?_⟩
      obtain ⟨j, rfl⟩ := Int.eq_ofNat_of_zero_le d0
      refine ⟨_, _, rfl, rfl, ?_⟩
      have ec : (1 : Int) + ((j : Nat) : Int) = ((1 + j : Nat) : Int) := by omega
      simp only [ec]
      refine ⟨u, 1 + j, n + 1, rfl, U1, by omega, by omega, fun H2 l ws k2 U2 nl e2 lw nd pl => ?_⟩
      have lu : l ≠ u := fun z => by obtain ⟨a, b, cc, e, _⟩ := U1; rw [← z, nl] at e; cases e
      refine ⟨u, l, n + 1 + (1 + j), ws, rfl, U2, by omega, e2, lu, by omega, by omega, by omega, fun H3 v3 t3 k3 U3 d3 l3 dp3 => ?_⟩
      have hsz := t3.len_leaves
      rw [l3] at hsz
      exact hQ H3 v3 t3 ((k1.trans k2).trans k3) (U3.mono (by omega)) d3 (by rw [l3]; exact nd) (by rw [l3]; exact pl) (by omega) (by omega)
end
end K90
end

section
set_option Elab.async false
set_option linter.all false
set_option maxRecDepth 100000
set_option maxHeartbeats 4000000
/-! the law's leaves, rest, put, lists -/
namespace K90
open PySem PySem.Spec PyProof.Rows L2
def spLeaves (K : PySem.W.Frag) (f : Nat) : Sp := fun vs H Q _ => ∃ (v : V) (t : T), vs = [v] ∧ Dp K H v t.data ∧ t.dp ≤ f ∧ t.size ≤ 1000 ∧ ∀ (H' : Hp) (l : Addr), Same H H' → H l = none → H' l = some (.lst (t.leaves.map V.str)) → Q (.ref l) H'
def spLeavesI (K : PySem.W.Frag) : Nat → Sp
  | 0 => fun _ _ _ _ => False
  | f + 1 => spLeaves K f
def spRest (K : PySem.W.Frag) : Sp := fun vs H Q _ => ∃ (v vg : V) (t : T) (o : List Str), vs = [v, vg] ∧ Dp K H v t.data ∧ okT t ∧ Dp K H vg (outD o) ∧ ∀ (H' : Hp) (v' : V), Same H H' → Dp K H' v' (outD (restL t o)) → Q v' H'
def spPut (K : PySem.W.Frag) : Sp := fun vs H Q _ => ∃ (v : V) (b : Addr) (o : List Str) (x : Str), vs = [v, .ref b] ∧ Dp K H v (outD o) ∧ H b = some (.lst [.str x]) ∧ o.length ≤ 200 ∧ o.Nodup ∧ x ∉ o ∧ ∀ (H' : Hp) (v' : V), Same H H' → Dp K H' v' (outD (sortS (o ++ [x]))) → Q v' H'
section
variable {w : World} {K : PySem.W.Frag} {mg : Str → Option Value} {base : Heap}
theorem ok_leaves_step (T : Txt K mg) (f : Nat) (ih : FnX w K mg base CX0 f ("_law_leaves", none) (spLeavesI K f)) : FnX w K mg base CX0 (f + 1) ("_law_leaves", none) (spLeaves K f) := by
  refine fnr (ps := ["_law_tale_here"]) (T.fn 42) sc_L_leaves ?ln ?bd (fun _ _ _ _ _ _ us hl => match us, hl with | [_], _ => rfl)
  case ln =>
    rintro _ _ _ _ ⟨v, t, rfl, _⟩
    rfl
  case bd =>
    intro cdv A outer s H vs Q E hr h
    apply bodyN
    case h =>
      exact pss_one (ps_ret (pe_ifExp (pt_val (pe_callB call_isi (by rfl) T.free boot_isi (pa_cons (pv 0) (pa_cons (pe_bltn (v := .ty "str") (by rfl) T.free boot_str rfl) pa_nil))))
        (pe_lst (pa_cons (pv 0) pa_nil))
        (pe_op op_cat (pe_cR ih hr (by rfl) T.glo (T.kp (d := d_L_leaves) 42) pass0 (pa_cons (pe_ix ix_tup (pv 0) pe_int (fun _ _ => rfl)) pa_nil)) (pe_cR ih hr (by rfl) T.glo (T.kp (d := d_L_leaves) 42) pass0 (pa_cons (pe_ix ix_tup (pv 0) pe_int (fun _ _ => rfl)) pa_nil)))))
    case r =>
      obtain ⟨v, t, rfl, hv, hf, hz, hQ⟩ := h
      obtain ⟨ty, h1, h2⟩ := ty_dp hv
      cases t with
      | leaf x =>
        obtain rfl := hv.strI
        exact ⟨_, rfl, _, _, _, _, _, rfl, .ty "str", h2, isi_str h1, _, rfl, iteT ⟨_, rfl, by show 1 ≤ sizeLine; decide, fun p np => hQ _ p (same_new np) np upd_same⟩⟩
      | node l r =>
        obtain ⟨b, x, y, rfl, hsq, hl, hr'⟩ := nodeI hv
        have hf' : max l.dp r.dp + 1 ≤ f := hf
        have hz' : l.size + r.size ≤ 1000 := hz
        cases f with
        | zero => omega
        | succ f =>
        refine ⟨_, rfl, _, _, _, _, _, rfl, .ty "str", h2, isi_str h1, _, rfl, iteF ?_⟩
        refine ⟨_, rfl, b, _, 0, _, rfl, rfl, hsq, atI_nat (j := 0) rfl, x, l, rfl, hl, by omega, by omega, fun H1 l1 s1 nl1 e1 => ?_⟩
        refine ⟨_, rfl, b, _, 1, _, rfl, rfl, same_tup s1 hsq, atI_nat (j := 1) rfl, y, r, rfl, hr'.same s1, by omega, by omega, fun H2 l2 s2 nl2 e2 => ?_⟩
        have ll := l.len_leaves
        have lr := r.len_leaves
        refine ⟨l1, l2, _, _, rfl, rfl, s2 _ _ e1, e2, by rw [List.length_map, List.length_map]; have := sizeLine_eq; omega, fun p np => hQ _ p ((s1.trans s2).trans (same_new np)) ((s1.trans s2).free np) ?_⟩
        rw [upd_same, ← List.map_append]
        rfl
theorem ok_L_leaves (T : Txt K mg) : ∀ f, FnX w K mg base CX0 (f + 1) ("_law_leaves", none) (spLeaves K f)
  | 0 => ok_leaves_step T 0 fun _ _ _ _ _ _ _ _ _ _ _ h => h.elim
  | f + 1 => ok_leaves_step T (f + 1) (ok_L_leaves T f)
theorem ok_L_rest (T : Txt K mg) : FnX w K mg base CX0 22 ("_law_rest", none) (spRest K) := by
  have FL := ok_L_leaves (w := w) (base := base) T 20
  refine fnr (ps := ["_law_tale_here", "_law_gone"]) (T.fn 43) sc_L_rest ?ln ?bd (fun _ _ _ _ _ _ us hl => match us, hl with | [_, _], _ => rfl)
  case ln =>
    rintro _ _ _ _ ⟨v, vg, t, o, rfl, _⟩
    rfl
  case bd =>
    intro cdv A outer s H vs Q E hr h
    apply bodyN
    case h =>
      exact pss_one (ps_ret (pe_callTy call_tuple_of (by rfl) T.free boot_tuple (pa_cons (pe_lcR (own := [("_law_own", 2)]) (g := gName 2) (by rfl) sc_L_rest.nd (pi_seq (pe_callB (call_sortS hr.units) (by rfl) T.free boot_sorted (pa_cons (pe_cR FL hr (by rfl) T.glo (T.kp (d := d_L_leaves) 42) pass0 (pa_cons (pv 0) pa_nil)) pa_nil))) (blkOk_by (own := [("_law_own", 2)]) (N := N_L_rest) (sc := defScope s_L_rest) (by decide +kernel))
            (fun _ _ _ _ _ => pg_name (i := 2) sc_L_rest.nd rfl (.inl rfl)) (fun _ _ _ _ _ => pts_one (pt_cmpR (opNotIn K rfl) (pv 2) (pv 1) (by rfl))) (fun _ _ _ _ _ => pv 2)) pa_nil)))
    case r =>
      obtain ⟨v, vg, t, o, rfl, hv, ok, hg, hQ⟩ := h
      have hl100 : t.leaves.length ≤ 100 := by rw [t.len_leaves]; exact ok.2
      refine ⟨_, rfl, v, t, rfl, hv, ok.1, by have := ok.2; omega, fun H1 l s1 nl e1 => ?_⟩
      refine ⟨l, t.leaves, rfl, .inl (.of e1), by omega, fun q nq => ?_⟩
      have s2 := same_new (o := .lst ((sortS t.leaves).map V.str)) nq
      have e2 : upd H1 q (.lst ((sortS t.leaves).map V.str)) q = some (.lst ((sortS t.leaves).map V.str)) := upd_same
      generalize upd H1 q (.lst ((sortS t.leaves).map V.str)) = H2 at s2 e2 ⊢
      have s12 := s1.trans s2
      refine ⟨q, rfl, comp_seq (K := K) (.inl (.of e2)) (fun i => ((sortS t.leaves)[i]?).bind fun y => if (!isOut o y) = true then some (PyData.str y) else none) (fun D i y H5 nD hy hi acc => ?_) fun D H5 acc => ?_⟩
      · rw [List.getElem?_map] at hy
        obtain ⟨z, hz, rfl⟩ := Option.map_eq_some_iff.mp hy
        rw [List.length_map, sortS_len] at hi
        have s5 := s12.trans acc.1
        obtain ⟨b7, rfl, hs7⟩ := outs_tup (hg.same s5)
        refine ⟨rfl, _, rfl, _, rfl, b7, _, rfl, .inr hs7, rfl, flat_strs _, _, rfl, ?_⟩
        rw [if_pos rfl, inV_str]
        cases c : isOut o z with
        | false => exact iteT ⟨_, rfl, acc.pushN (d := PyData.str z) (by rw [hz]; show (if _ then _ else _) = _; rw [c]; rfl) rfl (.str _) (small1000 (by omega))⟩
        | true => exact iteF (acc.skip (by rw [hz]; show (if _ then _ else _) = _; rw [c]; rfl))
      · obtain ⟨items, eD, hI⟩ := acc.list
        rw [List.length_map, fm_filt] at hI
        have ei := DpAll.strs hI
        subst ei
        refine ⟨D, _, rfl, .inl ⟨.of eD, fun q7 nq7 => ?_⟩⟩
        exact hQ _ _ ((s12.trans acc.1).trans (same_new nq7)) (.strs upd_same)
theorem ok_L_put (T : Txt K mg) : FnX w K mg base CX0 1 ("_law_put", none) (spPut K) := by
  refine fnr (ps := ["_law_some", "_law_others"]) (T.fn 44) sc_L_put ?ln ?bd (fun _ _ _ _ _ _ us hl => match us, hl with | [_, _], _ => rfl)
  case ln =>
    rintro _ _ _ _ ⟨v, b, o, x, rfl, _⟩
    rfl
  case bd =>
    intro cdv A outer s H vs Q E hr h
    apply bodyN
    case h =>
      exact pss_one (ps_ret (pe_callTy call_tuple_of (by rfl) T.free boot_tuple (pa_cons (pe_callB (call_sortTx (by rfl) hr.units) (by rfl) T.free boot_sorted (pa_cons (pe_callTy (call_setTx (by rfl)) (by rfl) T.free bt_set
        (pa_cons (pe_op op_cat (pe_callTy call_list_of (by rfl) T.free boot_list (pa_cons (pv 0) pa_nil)) (pe_callTy call_list_of (by rfl) T.free boot_list (pa_cons (pv 1) pa_nil))) pa_nil)) pa_nil)) pa_nil)))
    case r =>
      obtain ⟨v, b, o, x, rfl, hv, hb, hz, hnd, hx, hQ⟩ := h
      obtain ⟨a, rfl, ha⟩ := outs_tup hv
      refine ⟨_, rfl, a, _, rfl, .inr ha, fun l nl => ⟨_, rfl, b, _, rfl, .inl (.of (same_new nl _ _ hb)), fun l2 nl2 => ?_⟩⟩
      have s2 : Same H (upd (upd H l (.lst (o.map V.str))) l2 (.lst [.str x])) := same_new2 (same_new nl) nl2
      have e1 : upd (upd H l (.lst (o.map V.str))) l2 (.lst [.str x]) l = some (.lst (o.map V.str)) := same_new nl2 _ _ upd_same
      have e2 : upd (upd H l (.lst (o.map V.str))) l2 (.lst [.str x]) l2 = some (.lst [.str x]) := upd_same
      generalize upd (upd H l (.lst (o.map V.str))) l2 (.lst [.str x]) = H2 at s2 e1 e2 ⊢
      refine ⟨l, l2, _, _, rfl, rfl, e1, e2, by rw [List.length_map]; have := sizeLine_eq; simp; omega, fun p np => ?_⟩
      have s3 : Same H2 (upd H2 p (.lst (o.map V.str ++ [V.str x]))) := same_new np
      have e3 : upd H2 p (.lst (o.map V.str ++ [V.str x])) p = some (.lst ((o ++ [x]).map V.str)) := by rw [upd_same, List.map_append]; rfl
      generalize upd H2 p (.lst (o.map V.str ++ [V.str x])) = H3 at s3 e3 ⊢
      have nd : (o ++ [x]).Nodup := by
        refine List.nodup_append.mpr ⟨hnd, by simp, fun y hy z hz e => ?_⟩
        rw [List.mem_singleton.mp hz] at e
        exact hx (e ▸ hy)
      have hlen : (o ++ [x]).length ≤ 1000 := by rw [List.length_append]; simp; omega
      refine ⟨p, o ++ [x], rfl, .of e3, nd, hlen, fun q nq => ?_⟩
      refine ⟨q, _, rfl, upd_same, (List.reverse_perm _).nodup_iff.mpr nd, by rw [List.length_reverse]; exact hlen, fun r nr => ?_⟩
      refine ⟨r, _, rfl, .inl ⟨.of upd_same, fun z nz => hQ _ _ ((((s2.trans s3).trans (same_new nq)).trans (same_new nr)).trans (same_new nz)) ?_⟩⟩
      rw [← sortS_of (List.reverse_perm (o ++ [x]))]
      exact .strs upd_same
end
end K90
end

section
set_option Elab.async false
set_option linter.all false
set_option maxRecDepth 100000
set_option maxHeartbeats 4000000
/-! the law's lists, same, cells -/
namespace K90
open PySem PySem.Spec PyProof.Rows L2
def lstN : Nat → PyData → PyData
  | n + 1, .list ds => .list (ds.map (lstN n))
  | n + 1, .tuple ds => .list (ds.map (lstN n))
  | _, d => d
theorem lstN_flat {n : Nat} {d : PyData} (e : seqD d = none) : lstN n d = d := by
  cases n <;> cases d <;> first | rfl | cases e
theorem lstN_seq {n : Nat} {d : PyData} {ds : List PyData} (e : seqD d = some ds) : lstN (n + 1) d = .list (ds.map (lstN n)) := by
  cases d <;> cases e <;> rfl
theorem flat_any {K : PySem.W.Frag} {H H' : Hp} {v : V} {n : Nat} {d : PyData} (e : seqD d = none) (h : Dp K H v d) : Dp K H' v d := by
  cases h with
  | lst _ _ => cases e
  | tup _ _ => cases e
  | non => exact .non
  | bl b => exact .bl b
  | int i => exact .int i
  | str x => exact .str x
/-! ### a list of new things -/
def AccD (K : PySem.W.Frag) (H1 : Hp) (D : Addr) (ds : List PyData) (H : Hp) : Prop := Same H1 H ∧ H1 D = none ∧ ∃ acc, H D = some (.lst acc) ∧ DpAll K (dif (upd H1 D (.lst [])) H) acc ds
theorem AccD.start {K : PySem.W.Frag} {H1 : Hp} {D : Addr} (n : H1 D = none) : AccD K H1 D [] (upd H1 D (.lst [])) := ⟨same_new n, n, [], upd_same, .nil⟩
theorem AccD.same {K : PySem.W.Frag} {H1 H H' : Hp} {D : Addr} {ds : List PyData} (a : AccD K H1 D ds H) (s : Same H H') : AccD K H1 D ds H' := by
  obtain ⟨s1, n, acc, e, r⟩ := a
  exact ⟨s1.trans s, n, acc, s _ _ e, DpAll.same (dif_up s) r⟩
theorem AccD.push {K : PySem.W.Frag} {H1 H H2 : Hp} {D : Addr} {ds : List PyData} {d : PyData} {y : V} (a : AccD K H1 D ds H) (s : Same H H2) (h : Dp K (dif H H2) y d) (z : ds.length < sizeLine) :
    ∃ acc, H2 D = some (.lst acc) ∧ acc.length < sizeLine ∧ AccD K H1 D (ds ++ [d]) (upd H2 D (.lst (acc ++ [y]))) := by
  obtain ⟨s1, n, acc, e, r⟩ := a
  have nD : dif (upd H1 D (.lst [])) H2 D = none := by unfold dif; rw [upd_same]
  have sd : Same (dif (upd H1 D (.lst [])) H2) (dif (upd H1 D (.lst [])) (upd H2 D (.lst (acc ++ [y])))) := fun b u q => by
    have hb : b ≠ D := fun z => by rw [z, nD] at q; cases q
    unfold dif at q ⊢
    split at q
    · exact (upd_ne hb).trans q
    · cases q
  have s2 : Same (dif H H2) (dif (upd H1 D (.lst [])) H2) := fun b u q => by
    unfold dif at q
    split at q
    · rename_i hn
      have hb : b ≠ D := fun z => by rw [z, e] at hn; cases hn
      refine dif_at ?_ q
      rw [upd_ne hb]
      exact s1.free hn
    · cases q
  refine ⟨acc, s _ _ e, by rw [r.len]; exact z, fun b u q => by rw [upd_ne (ne_of_none q n)]; exact s _ _ (s1 b u q), n, acc ++ [y], upd_same, ?_⟩
  exact DpAll.app (DpAll.same ((dif_up s).trans sd) r) (.one (Dp.same (s2.trans sd) h))
theorem AccD.dp {K : PySem.W.Frag} {H1 H : Hp} {D : Addr} {ds : List PyData} (a : AccD K H1 D ds H) : Dp K (dif H1 H) (.ref D) (.list ds) := by
  obtain ⟨s, n, acc, e, r⟩ := a
  exact .lstM (dif_at n e) (DpAll.same (dif_mono (same_new n)) r)
theorem comp_seqD {K : PySem.W.Frag} {xs : List V} {a : Addr} {H1 : Hp} (h : SqA K H1 a xs) (ds : List PyData) (hl : ds.length = xs.length) {g : TG} {tt : TT} {te : TE} {vs : List Nat} {σ : L2.St} {Q : VK}
    (hs : ∀ D i x H, H1 D = none → xs[i]? = some x → i < xs.length → AccD K H1 D (ds.take i) H → LcTurn g tt te vs σ D (AccD K H1 D (ds.take (i + 1))) x H) (hd : ∀ D H, AccD K H1 D ds H → Q (.ref D) H) :
    ((∃ xs, SqL K H1 a xs) ∧ LcR g tt te vs σ Q (Itl K a) H1) ∨ ((∃ xs, SqT K H1 a xs) ∧ LcR g tt te vs σ Q (Itt K a) H1) := by
  have hd' : ∀ D H, AccD K H1 D (ds.take xs.length) H → Q (.ref D) H := fun D H a => hd D H (by rw [List.take_of_length_le (by omega)] at a; exact a)
  rcases h with h | h
  · exact .inl ⟨⟨xs, h⟩, fun D nD => lc_it walk_list (fun i H => AccD K H1 D (ds.take i) H) (AccD.start nD) (fun i H _ a => a.1.seq h) (fun i x H H' hi a y => by
      obtain ⟨e, y⟩ := y
      subst e
      exact hs D i x _ nD y hi a) (hd' D)⟩
  · exact .inr ⟨⟨xs, h⟩, fun D nD => lc_it walk_tup (fun i H => AccD K H1 D (ds.take i) H) (AccD.start nD) (fun i H _ a => same_tup a.1 h) (fun i x H H' hi a y => by
      obtain ⟨e, y⟩ := y
      subst e
      exact hs D i x _ nD y hi a) (hd' D)⟩
def spLists (K : PySem.W.Frag) (n : Nat) : Sp := fun vs H Q _ => ∃ (v : V) (d : PyData), vs = [v] ∧ Dp K H v d ∧ smD n d = true ∧ ∀ (H' : Hp) (v' : V), Same H H' → Dp K (dif H H') v' (lstN n d) → Q v' H'
def spListsI (K : PySem.W.Frag) : Nat → Sp
  | 0 => fun _ _ _ _ => False
  | f + 1 => spLists K f
section
variable {w : World} {K : PySem.W.Frag} {mg : Str → Option Value} {base : Heap}
theorem ok_lists_step (T : Txt K mg) (n : Nat) (ih : FnX w K mg base CX0 n ("_law_lists", none) (spListsI K n)) : FnX w K mg base CX0 (n + 1) ("_law_lists", none) (spLists K n) := by
  refine fnr (ps := ["_law_matter"]) (T.fn 37) sc_L_lists ?ln ?bd (fun _ _ _ _ _ _ us hl => match us, hl with | [_], _ => rfl)
  case ln =>
    rintro _ _ _ _ ⟨v, d, rfl, _⟩
    rfl
  case bd =>
    intro cdv A outer s H vs Q E hr h
    apply bodyN
    case h =>
      exact pss_one (ps_ret (pe_ifExp
          (pt_val (pe_callB call_isiT (by rfl) T.free boot_isi (pa_cons (pv 0) (pa_cons (pe_tup (pa_cons (pe_bltn (v := .ty "list") (by rfl) T.free boot_list rfl) (pa_cons (pe_bltn (v := .ty "tuple") (by rfl) T.free boot_tuple rfl) pa_nil))) pa_nil))))
          (pe_lcR (own := [("_law_bit", 1)]) (g := gName 1) (tt := tYes) (by rfl) sc_L_lists.nd (pi_seq (pv 0)) (blkOk_by (own := [("_law_bit", 1)]) (N := N_L_lists) (sc := defScope s_L_lists) (by decide +kernel))
            (fun _ _ _ _ _ => pg_name (i := 1) sc_L_lists.nd rfl (.inl rfl)) (fun _ _ _ _ _ => pts_nil) (fun _ _ _ _ _ => pe_cR ih hr (by rfl) T.glo (T.kp (d := d_L_lists) 37) pass0 (pa_cons (pv 1) pa_nil))) (pv 0)))
    case r =>
      obtain ⟨v, d, rfl, hd, hs, hQ⟩ := h
      refine ⟨_, rfl, by show 2 ≤ sizeLine; decide, fun p np => ?_⟩
      have s1 := same_new (o := .tup [V.ty "list", V.ty "tuple"]) np
      have hd1 := hd.same s1
      have e1 : upd H p (.tup [V.ty "list", V.ty "tuple"]) p = some (.tup [V.ty "list", V.ty "tuple"]) := upd_same
      generalize upd H p (.tup [V.ty "list", V.ty "tuple"]) = H1 at s1 hd1 e1 ⊢
      obtain ⟨ty, h1, h2⟩ := ty_dp hd1
      refine ⟨_, _, _, _, _, _, rfl, e1, clsV2 (K := K), h2, kit_seq h1, _, rfl, ?_⟩
      cases e : seqD d with
      | none =>
        refine iteF ⟨_, rfl, hQ H1 v s1 ?_⟩
        rw [lstN_flat e]
        exact flat_any (n := n) e hd
      | some ds =>
        refine iteT ?_
        obtain ⟨m, rfl, hlen, hall, _⟩ := smD_seq hs e
        obtain ⟨a, xs, rfl, hsq, hit⟩ : ∃ a xs, v = .ref a ∧ SqA K H1 a xs ∧ DpAll K H1 xs ds := by
          cases d with
          | list es =>
            cases e
            obtain ⟨a, xs, z, q1, q2⟩ := hd1.lstI
            exact ⟨a, xs, z, .inl q1, q2⟩
          | tuple es =>
            cases e
            obtain ⟨a, xs, z, q1, q2⟩ := hd1.tupI
            exact ⟨a, xs, z, .inr q1, q2⟩
          | _ => cases e
        have hl := hit.len
        refine ⟨_, rfl, a, rfl, comp_seqD hsq (ds.map (lstN m)) (by rw [List.length_map]; omega) (fun D i x H2 nD hx hi acc => ?_) fun D H2 acc => ?_⟩
        · obtain ⟨di, hdi, hx1⟩ := hit.get hx
          refine ⟨rfl, yes_t ⟨x, rfl, x, di, rfl, hx1.same acc.1, hall di (List.mem_of_getElem? hdi), fun H3 y s3 hy => ?_⟩⟩
          have et : (ds.map (lstN m)).take (i + 1) = (ds.map (lstN m)).take i ++ [lstN m di] := by
            rw [List.take_add_one, List.getElem?_map, hdi]
            rfl
          rw [et]
          exact acc.push s3 hy (small1000 (by rw [List.length_take, List.length_map]; omega))
        · refine hQ H2 _ (s1.trans acc.1) ?_
          rw [lstN_seq e]
          exact Dp.same (dif_mono s1) acc.dp
theorem ok_L_lists (T : Txt K mg) : ∀ n, FnX w K mg base CX0 (n + 1) ("_law_lists", none) (spLists K n)
  | 0 => ok_lists_step T 0 fun _ _ _ _ _ _ _ _ _ _ _ h => h.elim
  | n + 1 => ok_lists_step T (n + 1) (ok_L_lists T n)
end
/-! ### same -/
def isLD : PyData → Bool
  | .list _ => true
  | _ => false
def isTD : PyData → Bool
  | .tuple _ => true
  | _ => false
def isBSD : PyData → Bool
  | .bool _ => true
  | .str _ => true
  | _ => false
def isBD : PyData → Bool
  | .bool _ => true
  | _ => false
def isID : PyData → Bool
  | .bool _ => true
  | .int _ => true
  | _ => false
theorem kit_L {K : PySem.W.Frag} {d : PyData} {n : String} (h : tyD d = some n) : PySem.W.kitOne K (.type n) (.type "list") = some (isLD d) := by cases d <;> cases h <;> kernel_rfl
theorem kit_T {K : PySem.W.Frag} {d : PyData} {n : String} (h : tyD d = some n) : PySem.W.kitOne K (.type n) (.type "tuple") = some (isTD d) := by cases d <;> cases h <;> kernel_rfl
theorem kit_B {K : PySem.W.Frag} {d : PyData} {n : String} (h : tyD d = some n) : PySem.W.kitOne K (.type n) (.type "bool") = some (isBD d) := by cases d <;> cases h <;> kernel_rfl
theorem kit_I {K : PySem.W.Frag} {d : PyData} {n : String} (h : tyD d = some n) : PySem.W.kitOne K (.type n) (.type "int") = some (isID d) := by cases d <;> cases h <;> kernel_rfl
theorem kit_BS {K : PySem.W.Frag} {d : PyData} {n : String} (h : tyD d = some n) : PySem.W.kitAny K (.type n) [.type "bool", .type "str"] = some (isBSD d) := by cases d <;> cases h <;> kernel_rfl
theorem clsBS {K : PySem.W.Frag} : Paired ClsV [V.ty "bool", V.ty "str"] [Value.type "bool", Value.type "str"] := .cons (.ty _) (.cons (.ty _) .nil)
theorem walk_zipT {K : PySem.W.Frag} {a b : Addr} {xs ys : List V} {n : Nat} (hn : n = min xs.length ys.length) : Walk (RZ.ItzT K a b) n (fun H => SqT K H a xs ∧ SqT K H b ys) (YPair (fun i => xs[i]?) (fun i => ys[i]?)) := by
  subst hn
  refine ⟨fun i _ hi q => ?_, fun _ q => ⟨xs, ys, q.1, q.2, by omega⟩, fun i H v H' _ q y => ?_⟩
  · have h1 : i < xs.length := by omega
    have h2 : i < ys.length := by omega
    exact ⟨xs, ys, xs[i], ys[i], q.1, q.2, by simp [h1], by simp [h2]⟩
  · obtain ⟨T, x, z, h1, h2, h3, h4, h5⟩ := y
    exact ⟨T, x, z, h1, h2, h3, h4 xs q.1, h5 ys q.2⟩
theorem comp_zip {K : PySem.W.Frag} {xs ys : List V} {a b : Addr} {H1 : Hp} (h : (SqL K H1 a xs ∧ SqL K H1 b ys) ∨ (SqT K H1 a xs ∧ SqT K H1 b ys)) (hl : xs.length = ys.length) (f : Nat → Option PyData) {g : TG} {tt : TT} {te : TE} {vs : List Nat} {σ : L2.St} {Q : VK}
    (hs : ∀ D i x y T H, H1 D = none → xs[i]? = some x → ys[i]? = some y → i < xs.length → AccF K H1 D f i (upd H T (.tup [x, y])) → H T = none → LcTurn g tt te vs σ D (AccF K H1 D f (i + 1)) (.ref T) (upd H T (.tup [x, y]))) (hd : ∀ D H, Acc K H1 D ((List.range xs.length).filterMap f) H → Q (.ref D) H) :
    (SqL K H1 a xs ∧ SqL K H1 b ys ∧ LcR g tt te vs σ Q (Itz K a b) H1) ∨ (SqT K H1 a xs ∧ SqT K H1 b ys ∧ LcR g tt te vs σ Q (RZ.ItzT K a b) H1) := by
  have hm : xs.length = min xs.length ys.length := by omega
  rcases h with ⟨h, h'⟩ | ⟨h, h'⟩
  · exact .inl ⟨h, h', comp_walk (walk_zip hm) f (fun H s => ⟨s.seq h, s.seq h'⟩) (fun D i v H H' nD hi a y => by
      obtain ⟨T, x, z, rfl, nT, rfl, ex, ey⟩ := y
      exact hs D i x z T _ nD ex ey hi (a.same (same_new nT)) nT) hd⟩
  · exact .inr ⟨h, h', comp_walk (walk_zipT hm) f (fun H s => ⟨same_tup s h, same_tup s h'⟩) (fun D i v H H' nD hi a y => by
      obtain ⟨T, x, z, rfl, nT, rfl, ex, ey⟩ := y
      exact hs D i x z T _ nD ex ey hi (a.same (same_new nT)) nT) hd⟩
def spSame (K : PySem.W.Frag) (n : Nat) : Sp := fun vs H Q _ => ∃ (v1 v2 : V) (d : PyData), vs = [v1, v2] ∧ Dp K H v1 d ∧ Dp K H v2 d ∧ smD n d = true ∧ ∀ H', Same H H' → Q (.bl true) H'
def spSameI (K : PySem.W.Frag) : Nat → Sp
  | 0 => fun _ _ _ _ => False
  | f + 1 => spSame K f
section
variable {w : World} {K : PySem.W.Frag} {mg : Str → Option Value} {base : Heap}
theorem ok_same_step (T : Txt K mg) (n : Nat) (ih : FnX w K mg base CX0 n ("_law_same", none) (spSameI K n)) : FnX w K mg base CX0 (n + 1) ("_law_same", none) (spSame K n) := by
  refine fnr (ps := ["_law_got", "_law_goal"]) (T.fn 38) sc_L_same ?ln ?bd (fun _ _ _ _ _ _ us hl => match us, hl with | [_, _], _ => rfl)
  case ln =>
    rintro _ _ _ _ ⟨v1, v2, d, rfl, _⟩
    rfl
  case bd =>
    intro cdv A outer s H vs Q E hr h
    apply bodyN
    case h =>
      exact pss_cons (ps_if (pt_val (pe_callB call_isiT (by rfl) T.free boot_isi (pa_cons (pv 1) (pa_cons (pe_tup (pa_cons (pe_bltn (v := .ty "list") (by rfl) T.free boot_list rfl) (pa_cons (pe_bltn (v := .ty "tuple") (by rfl) T.free boot_tuple rfl) pa_nil))) pa_nil))))
          (pss_cons (ps_if (PW.pt (pw_or (pt_cmpR op_ne (pe_callB call_isi (by rfl) T.free boot_isi (pa_cons (pv 0) (pa_cons (pe_bltn (v := .ty "list") (by rfl) T.free boot_list rfl) pa_nil))) (pe_callB call_isi (by rfl) T.free boot_isi (pa_cons (pv 1) (pa_cons (pe_bltn (v := .ty "list") (by rfl) T.free boot_list rfl) pa_nil))) (nomark _))
              (pw_or1 (pt_cmpR op_ne (pe_callB call_isi (by rfl) T.free boot_isi (pa_cons (pv 0) (pa_cons (pe_bltn (v := .ty "tuple") (by rfl) T.free boot_tuple rfl) pa_nil))) (pe_callB call_isi (by rfl) T.free boot_isi (pa_cons (pv 1) (pa_cons (pe_bltn (v := .ty "tuple") (by rfl) T.free boot_tuple rfl) pa_nil))) (nomark _)))))
              (pss_one (ps_ret pe_bl)) pss_nil)
            (pss_one (ps_ret (pe_and (pe_cmpR op_eq (pe_callB call_len_seq (by rfl) T.free PySem.boot_len (pa_cons (pv 0) pa_nil)) (pe_callB call_len_seq (by rfl) T.free PySem.boot_len (pa_cons (pv 1) pa_nil)) (nomark _))
              (pe_one (pe_callB (cr_all rfl) (by rfl) T.free bt_all (pa_cons (pe_lcR (own := [("_law_mine_so", 2), ("_law_own", 3)]) (tt := tYes) (by rfl) sc_L_same.nd (RZ.pi_zipA (by rfl) T.free (pa_cons (pv 0) (pa_cons (pv 1) pa_nil))) (blkOk_by (own := [("_law_mine_so", 2), ("_law_own", 3)]) (N := N_L_same) (sc := defScope s_L_same) (by decide +kernel))
                (fun _ _ _ _ _ => pgTup (n := 2) K rfl rfl (pgs_cons (pg_name (i := 2) sc_L_same.nd rfl (.inl rfl)) (pgs_cons (pg_name (i := 3) sc_L_same.nd rfl (.inl rfl)) pgs_nil)))
                (fun _ _ _ _ _ => pts_nil) (fun _ _ _ _ _ => pe_cR ih hr (by rfl) T.glo (T.kp (d := d_L_same) 38) pass0 (pa_cons (pv 2) (pa_cons (pv 3) pa_nil)))) pa_nil))))))) pss_nil)
        (pss_cons (ps_if (PW.pt (pw_or (pt_cmpR op_isN (pv 1) pe_non (nomark _)) (pw_or1 (pt_val (pe_callB call_isiT (by rfl) T.free boot_isi (pa_cons (pv 1) (pa_cons (pe_tup (pa_cons (pe_bltn (v := .ty "bool") (by rfl) T.free bt_bool rfl) (pa_cons (pe_bltn (v := .ty "str") (by rfl) T.free boot_str rfl) pa_nil))) pa_nil)))))))
            (pss_one (ps_ret (pe_and (pe_cmpR op_eq (pv 0) (pv 1) (nomark _)) (pe_and (pe_cmpR op_eq (pe_callB call_isi (by rfl) T.free boot_isi (pa_cons (pv 0) (pa_cons (pe_bltn (v := .ty "bool") (by rfl) T.free bt_bool rfl) pa_nil))) (pe_callB call_isi (by rfl) T.free boot_isi (pa_cons (pv 1) (pa_cons (pe_bltn (v := .ty "bool") (by rfl) T.free bt_bool rfl) pa_nil))) (nomark _))
              (pe_one (pe_cmpR op_eq (pe_cmpR op_isN (pv 0) pe_non (nomark _)) (pe_cmpR op_isN (pv 1) pe_non (nomark _)) (nomark _))))))) pss_nil)
        (pss_one (ps_ret (pe_and (pe_callB call_isi (by rfl) T.free boot_isi (pa_cons (pv 0) (pa_cons (pe_bltn (v := .ty "int") (by rfl) T.free bt_int rfl) pa_nil)))
          (pe_and (pe_not (pe_callB call_isi (by rfl) T.free boot_isi (pa_cons (pv 0) (pa_cons (pe_bltn (v := .ty "bool") (by rfl) T.free bt_bool rfl) pa_nil)))) (pe_one (pe_cmpR op_eq (pv 0) (pv 1) (nomark _))))))))
    case r =>
      obtain ⟨v1, v2, d, rfl, hd1, hd2, hs, hQ⟩ := h
      refine ⟨_, rfl, by show 2 ≤ sizeLine; decide, fun p np => ?_⟩
      have s1 := same_new (o := .tup [V.ty "list", V.ty "tuple"]) np
      have hd1 := hd1.same s1
      have hd2 := hd2.same s1
      have e1 : upd H p (.tup [V.ty "list", V.ty "tuple"]) p = some (.tup [V.ty "list", V.ty "tuple"]) := upd_same
      generalize upd H p (.tup [V.ty "list", V.ty "tuple"]) = H1 at s1 hd1 hd2 e1 ⊢
      obtain ⟨ty, h1, hA⟩ := ty_dp hd1
      have hB : TyX K H1 v2 (.type ty) := by
        obtain ⟨ty2, h1', h2'⟩ := ty_dp hd2
        rw [h1] at h1'
        cases h1'
        exact h2'
      refine ⟨_, _, _, _, _, _, rfl, e1, clsV2 (K := K), hB, kit_seq h1, _, rfl, ?_⟩
      cases e : seqD d with
      | some ds =>
        refine iteT ⟨_, rfl, _, _, _, _, _, rfl, .ty "list", hA, kit_L h1, _, rfl, _, _, _, _, _, rfl, .ty "list", hB, kit_L h1, rfl, _, rfl, ?_⟩
        rw [decide_eq_true rfl]
        refine iteF ⟨_, rfl, _, _, _, _, _, rfl, .ty "tuple", hA, kit_T h1, _, rfl, _, _, _, _, _, rfl, .ty "tuple", hB, kit_T h1, rfl, _, rfl, ?_⟩
        rw [decide_eq_true rfl]
        refine iteF ?_
        obtain ⟨m, rfl, hlen, hall, _⟩ := smD_seq hs e
        obtain ⟨a, b, xs, ys, rfl, rfl, hsq, hx, hy⟩ : ∃ a b xs ys, v1 = .ref a ∧ v2 = .ref b ∧ ((SqL K H1 a xs ∧ SqL K H1 b ys) ∨ (SqT K H1 a xs ∧ SqT K H1 b ys)) ∧ DpAll K H1 xs ds ∧ DpAll K H1 ys ds := by
          cases d with
          | list es =>
            cases e
            obtain ⟨a, xs, z, q1, q2⟩ := hd1.lstI
            obtain ⟨b, ys, z', q1', q2'⟩ := hd2.lstI
            exact ⟨a, b, xs, ys, z, z', .inl ⟨q1, q1'⟩, q2, q2'⟩
          | tuple es =>
            cases e
            obtain ⟨a, xs, z, q1, q2⟩ := hd1.tupI
            obtain ⟨b, ys, z', q1', q2'⟩ := hd2.tupI
            exact ⟨a, b, xs, ys, z, z', .inr ⟨q1, q1'⟩, q2, q2'⟩
          | _ => cases e
        have lx := hx.len
        have ly := hy.len
        have sa : SqL K H1 a xs ∨ SqT K H1 a xs := hsq.imp (·.1) (·.1)
        have sb : SqL K H1 b ys ∨ SqT K H1 b ys := hsq.imp (·.2) (·.2)
        refine ⟨_, rfl, a, xs, rfl, sa, _, rfl, b, ys, rfl, sb, rfl, _, rfl, ?_⟩
        rw [decide_eq_true (by rw [lx, ly])]
        refine iteT ⟨_, rfl, _, rfl, a, b, xs, ys, rfl, comp_zip hsq (by omega) (fun i => (ds[i]?).map fun _ => PyData.bool true) (fun D i x y T H2 nD ex ey hi acc nT => ?_) fun D H2 acc => ?_⟩
        · obtain ⟨di, hdi, hx1⟩ := hx.get ex
          obtain ⟨di', hdi', hy1⟩ := hy.get ey
          rw [hdi] at hdi'
          cases hdi'
          refine ⟨T, _, rfl, .of upd_same, rfl, _, _, rfl, _, _, rfl, rfl, rfl, yes_t ⟨_, rfl, _, rfl, x, y, di, rfl, hx1.same acc.1, hy1.same acc.1, hall di (List.mem_of_getElem? hdi), fun H3 s3 => ?_⟩⟩
          exact (acc.same s3).pushN (d := PyData.bool true) (by show (ds[i]?).map _ = _; rw [hdi]; rfl) rfl (.bl _) (small1000 (by omega))
        · obtain ⟨items, eD, hI⟩ := acc.list
          rw [lx, fm_map] at hI
          have e2 : (ds.map fun _ => PyData.bool true) = (ds.map fun _ => true).map PyData.bool := by rw [List.map_map]; rfl
          rw [e2] at hI
          have ei := bls_back hI
          subst ei
          refine ⟨D, _, rfl, .of eD, ?_⟩
          rw [show ((ds.map fun _ => true).all id) = true by simp]
          exact hQ H2 (s1.trans acc.1)
      | none =>
        refine iteF ?_
        obtain rfl : v1 = v2 := by
          cases hd1 with
          | lst _ _ => cases e
          | tup _ _ => cases e
          | non => exact hd2.nonI.symm
          | bl b => exact hd2.blI.symm
          | int i => exact hd2.intI.symm
          | str x => exact hd2.strI.symm
        have hsc : scal v1 v1 = true := by
          cases hd1 with
          | lst _ _ => cases e
          | tup _ _ => cases e
          | _ => rfl
        refine ⟨_, rfl, rfl, _, rfl, ?_⟩
        by_cases cn : v1 = .non
        · rw [decide_eq_true cn]
          refine iteT (iteT ⟨_, rfl, _, rfl, hsc, _, rfl, ?_⟩)
          rw [decide_eq_true rfl]
          refine iteT ⟨_, rfl, _, _, _, _, _, rfl, .ty "bool", hA, kit_B h1, _, rfl, _, _, _, _, _, rfl, .ty "bool", hA, kit_B h1, rfl, _, rfl, ?_⟩
          rw [decide_eq_true rfl]
          refine iteT ⟨_, rfl, rfl, _, rfl, rfl, rfl, ?_⟩
          rw [decide_eq_true rfl]
          exact hQ _ s1
        · rw [decide_eq_false cn]
          refine iteF ⟨_, rfl, by show 2 ≤ sizeLine; decide, fun p2 np2 => ?_⟩
          have s2 := s1.trans (same_new (o := .tup [V.ty "bool", V.ty "str"]) np2)
          have hA2 : TyX K (upd H1 p2 (.tup [V.ty "bool", V.ty "str"])) v1 (.type ty) := by
            obtain ⟨ty2, h1', h2'⟩ := ty_dp (hd1.same (same_new (o := .tup [V.ty "bool", V.ty "str"]) np2))
            rw [h1] at h1'
            cases h1'
            exact h2'
          have e2 : upd H1 p2 (.tup [V.ty "bool", V.ty "str"]) p2 = some (.tup [V.ty "bool", V.ty "str"]) := upd_same
          generalize upd H1 p2 (.tup [V.ty "bool", V.ty "str"]) = H2 at s2 hA2 e2 ⊢
          refine ⟨_, _, _, _, _, _, rfl, e2, clsBS (K := K), hA2, kit_BS h1, _, rfl, ?_⟩
          cases cb : isBSD d with
          | true =>
            refine iteT ⟨_, rfl, _, rfl, hsc, _, rfl, ?_⟩
            rw [decide_eq_true rfl]
            refine iteT ⟨_, rfl, _, _, _, _, _, rfl, .ty "bool", hA2, kit_B h1, _, rfl, _, _, _, _, _, rfl, .ty "bool", hA2, kit_B h1, rfl, _, rfl, ?_⟩
            rw [decide_eq_true rfl]
            refine iteT ⟨_, rfl, rfl, _, rfl, rfl, rfl, ?_⟩
            rw [decide_eq_true rfl]
            exact hQ _ s2
          | false =>
            have hi : isID d = true ∧ isBD d = false := by
              cases hd1 with
              | lst _ _ => cases e
              | tup _ _ => cases e
              | non => exact absurd rfl cn
              | bl b => cases cb
              | int i => exact ⟨rfl, rfl⟩
              | str x => cases cb
            refine iteF ⟨_, rfl, _, _, _, _, _, rfl, .ty "int", hA2, kit_I h1, _, rfl, ?_⟩
            rw [hi.1]
            refine iteT ⟨_, rfl, _, _, _, _, _, rfl, .ty "bool", hA2, kit_B h1, _, rfl, _, rfl, ?_⟩
            rw [hi.2]
            refine iteT ⟨_, rfl, _, rfl, hsc, ?_⟩
            rw [decide_eq_true rfl]
            exact hQ _ s2
theorem ok_L_same (T : Txt K mg) : ∀ n, FnX w K mg base CX0 (n + 1) ("_law_same", none) (spSame K n)
  | 0 => ok_same_step T 0 fun _ _ _ _ _ _ _ _ _ _ _ h => h.elim
  | n + 1 => ok_same_step T (n + 1) (ok_L_same T n)
end
/-! ### cells -/
def spCells (K : PySem.W.Frag) : Sp := fun vs H Q _ => ∃ (a : Addr) (ns : List Int), vs = [.ref a, .int 2] ∧ SqL K H a (ns.map V.int) ∧ ∀ (H' : Hp) (l : Addr) (ms : List Int), Same H H' → H l = none → H' l = some (.lst (ms.map V.int)) → 1 ≤ ms.length → ms.length ≤ 2 → Q (.ref l) H'
theorem cut_map {α : Type} (ns : List α) (f : α → V) (lo hi : Option Int) : ∃ ms : List α, cutV (ns.map f) lo hi = ms.map f ∧ ms.length ≤ ns.length := by
  refine ⟨(ns.drop (HT.sIx ns.length 0 lo)).take (HT.sIx ns.length ns.length hi - HT.sIx ns.length 0 lo), ?_, ?_⟩
  · unfold cutV
    rw [List.length_map, ← List.map_drop, ← List.map_take]
  · rw [List.length_take, List.length_drop]
    omega
section
variable {w : World} {K : PySem.W.Frag} {mg : Str → Option Value} {base : Heap}
theorem ok_L_cells (T : Txt K mg) : FnX w K mg base CX0 1 ("_law_cells", none) (spCells K) := by
  refine fnr (ps := ["_law_script", "_law_top"]) (T.fn 35) sc_L_cells ?ln ?bd (fun _ _ _ _ _ _ us hl => match us, hl with | [_, _], _ => rfl)
  case ln =>
    rintro _ _ _ _ ⟨a, ns, rfl, _⟩
    rfl
  case bd =>
    intro cdv A outer s H vs Q E hr h
    apply bodyN
    case h =>
      apply pss_cons
      · exact ps_set (i := 2) sc_L_cells.nd rfl (.inl rfl) (pe_orT (pe_callTy call_list_of (by rfl) T.free boot_list (pa_cons (pe_slice sl_list (pv 0) po_none (po_some (pv 1))) pa_nil)) (pe_one (pe_lst (pa_cons pe_int pa_nil))))
      apply pss_cons
      · apply ps_for PassesOwn.never rfl
        · exact pi_enum (by rfl) T.free (pa_cons (pe_slice sl_list (pv 0) (po_some (pv 1)) (po_some pe_int)) pa_nil)
        · exact pg_tup (n := 2) rfl (pgs_cons (pg_name (i := 3) sc_L_cells.nd rfl (.inl rfl)) (pgs_cons (pg_name (i := 4) sc_L_cells.nd rfl (.inl rfl)) pgs_nil))
        · exact pss_cons (ps_set (i := 5) sc_L_cells.nd rfl (.inl rfl) (pe_op op_mod (pe_callTy call_int1 (by rfl) T.free bt_int (pa_cons (pv 3) pa_nil)) (pv 1)))
            (pss_one (ps_asg (pe_op op_add (pe_ix ix_list (pv 2) (pv 5) (fun _ _ => rfl)) (pe_op op_mul (pv 4) (pe_op op_add (pv 3) pe_int))) (pg_sub (pv 2) (pv 5) set_list)))
      · exact pss_one (ps_ret (pv 2))
    case r =>
      obtain ⟨a, ns, rfl, hs, hQ⟩ := h
      refine ⟨_, rfl, _, rfl, _, rfl, a, _, rfl, hs, fun p np => ?_⟩
      have s1 := same_new (o := .lst (cutV (ns.map V.int) none (some 2))) np
      refine ⟨p, _, rfl, .inl (.of upd_same), fun l nl => ?_⟩
      have s2 := s1.trans (same_new (o := .lst (cutV (ns.map V.int) none (some 2))) nl)
      have e2 : upd (upd H p (.lst (cutV (ns.map V.int) none (some 2)))) l (.lst (cutV (ns.map V.int) none (some 2))) l = some (.lst (cutV (ns.map V.int) none (some 2))) := upd_same
      have nlH := s1.free nl
      generalize upd (upd H p (.lst (cutV (ns.map V.int) none (some 2)))) l (.lst (cutV (ns.map V.int) none (some 2))) = H2 at s2 e2 ⊢
      have ec : cutV (ns.map V.int) none (some 2) = (ns.take 2).map V.int := by
        unfold cutV
        rw [HT.sIx_none, show (some (2 : Int)) = some ((2 : Nat) : Int) from rfl, HT.sIx_nat, List.length_map, List.drop_zero, Nat.sub_zero, ← List.map_take]
        congr 1
        rw [Nat.min_comm]
        by_cases c : ns.length ≤ 2
        · rw [Nat.min_eq_left c, List.take_of_length_le (Nat.le_refl _), List.take_of_length_le c]
        · rw [Nat.min_eq_right (by omega)]
      rw [ec] at e2
      have rest : ∀ (H3 : Hp) (c : Addr) (ms : List Int), Same H H3 → H c = none → H3 c = some (.lst (ms.map V.int)) → 1 ≤ ms.length → ms.length ≤ 2 → (2 < ns.length → ms.length = 2) →
          (tSeq (tFor (iEnum K (tCons (tSl (rSlL K) (tVar 0) (tPart (tVar 1)) (tPart (tC (.int 63)))) tNil)) (gTup K 2 (gCons (gName 3) (gCons (gName 4) gNil))) (tSeq (tAsg (tOp (rI (fun _ j => 0 < j) fun i j => .int (i % j)) (tCB (fun xs H Q => (∃ i, xs = [.int i] ∧ Q (.int i) H) ∨ ∃ k, xs = [.bl k] ∧ Q (.int (if k then 1 else 0)) H) (tCons (tVar 3) tNil)) (tVar 1)) (gName 5))
            (tAsg (tOp (rI0 fun i j => .int (i + j)) (tOp (rIxL K) (tVar 2) (tVar 5)) (tOp (rI CMul fun i j => .int (i * j)) (tVar 4) (tOp (rI0 fun i j => .int (i + j)) (tVar 3) (tC (.int 2))))) (gSub (tVar 2) (tVar 5) rSetL)))) (tRet (tVar 2))) { nx := fun x H' => Q .non H', rt := Q } [some (.ref a), some (.int 2), some (.ref c), none, none, none] H3 := by
        intro H3 c ms sH nc ec l1 l2 l3
        have hs3 : SqL K H3 a (ns.map V.int) := sH.seq hs
        refine ⟨_, rfl, _, rfl, _, rfl, _, rfl, a, _, rfl, hs3, fun q nq => ?_⟩
        obtain ⟨cs, ecs, lcs⟩ := cut_map ns V.int (some 2) (some 63)
        have lcut : cs.length ≤ ns.length - 2 ∧ cs.length ≤ 63 := by
          have z := congrArg List.length ecs
          unfold cutV at z
          rw [show (some (2 : Int)) = some ((2 : Nat) : Int) from rfl, show (some (63 : Int)) = some ((63 : Nat) : Int) from rfl] at z
          simp only [List.length_map, List.length_take, List.length_drop, HT.sIx_nat] at z
          omega
        rw [ecs]
        have s4 : Same H3 (upd H3 q (.lst (cs.map V.int))) := same_new nq
        have e4 : upd H3 q (.lst (cs.map V.int)) q = some (.lst (cs.map V.int)) := upd_same
        have ec4 := s4 _ _ ec
        have qc : q ≠ c := fun z => by rw [z, ec] at nq; cases nq
        generalize upd H3 q (.lst (cs.map V.int)) = H4 at s4 e4 ec4 ⊢
        refine ⟨q, cs.map V.int, rfl, .of e4, ?_⟩
        refine for_it walk_enum (fun i σ' H' => ∃ (ms : List Int) (x3 x4 x5 : Option V), σ' = [some (.ref a), some (.int 2), some (.ref c), x3, x4, x5] ∧ Same H H' ∧ H' q = some (.lst (cs.map V.int)) ∧ H' c = some (.lst (ms.map V.int)) ∧ 1 ≤ ms.length ∧ ms.length ≤ 2 ∧ (2 < ns.length → ms.length = 2))
          ⟨ms, none, none, none, rfl, sH.trans s4, e4, ec4, l1, l2, l3⟩ (fun i σ' H' _ ⟨ms, x3, x4, x5, _, _, q, _⟩ => .of q) (fun i v σ' H' H'' hi ⟨ms, x3, x4, x5, eσ, sK, eq, ecx, m1, m2, m3⟩ y => ?_) (fun σ' H' ⟨ms, x3, x4, x5, eσ, sK, eq, ecx, m1, m2, m3⟩ => ?_)
        · subst eσ
          rw [List.length_map] at hi
          obtain ⟨tp, vi, vx, rfl, ntp, rfl, ei, ex⟩ := y
          cases ei
          have ex : (cs.map V.int)[i]? = some vx := ex
          rw [List.getElem?_map, List.getElem?_eq_getElem hi] at ex
          cases ex
          have m4 := m3 (by omega)
          obtain ⟨m, m', rfl⟩ : ∃ m m', ms = [m, m'] := by
            match ms, m4 with
            | [m, m'], _ => exact ⟨m, m', rfl⟩
          have sn := same_new (o := .tup [.int (i : Nat), V.int cs[i]]) ntp
          have ecx2 := sn _ _ ecx
          have eq2 := sn _ _ eq
          have sK2 := sK.trans sn
          have ixs : ∀ j : Nat, j < 2 → ∀ m m' : Int, ([m, m'].map V.int)[j]? = some (V.int ([m, m'].getD j 0)) := fun j hj m m' => by
            match j, hj with
            | 0, _ => rfl
            | 1, _ => rfl
          have hm := mod_pos (i : Int) (m := 2) (by omega)
          obtain ⟨j, ej⟩ := Int.eq_ofNat_of_zero_le hm.1
          have hj : j < 2 := by omega
          refine ⟨tp, _, rfl, .of upd_same, rfl, _, _, rfl, _, _, rfl, rfl, ?_⟩
          refine ⟨_, rfl, .inl ⟨_, rfl, _, rfl, _, _, rfl, rfl, by omega, ?_⟩⟩
          simp only [ej]
          have hix : ixN 2 ((j : Nat) : Int) = some j := by
            rcases (by omega : j = 0 ∨ j = 1) with z | z
            · rw [z]; rfl
            · rw [z]; rfl
          refine ⟨_, rfl, _, rfl, c, _, (j : Int), _, rfl, rfl, .of ecx2, atI_nat (ixs j hj m m'), _, rfl, _, rfl, _, _, rfl, rfl, _, _, rfl, rfl, .inr ⟨by omega, by omega⟩, _, _, rfl, rfl, _, rfl, _, rfl, c, _, (j : Int), j, rfl, rfl, ecx2, hix, ?_⟩
          have e2 : ([m, m'].map V.int).set j (V.int ([m, m'].getD j 0 + cs[i] * ((i : Int) + 2))) = ([m, m'].set j ([m, m'].getD j 0 + cs[i] * ((i : Int) + 2))).map V.int := by rw [List.map_set]
          refine ⟨[m, m'].set j ([m, m'].getD j 0 + cs[i] * ((i : Int) + 2)), _, _, _, rfl, fun b u z => ?_, ?_, ?_, by simp, by simp, fun _ => by simp⟩
          · rw [upd_ne (ne_of_none z nc)]
            exact sK2 b u z
          · rw [upd_ne qc]
            exact eq2
          · rw [upd_same, e2]
        · subst eσ
          exact ⟨_, rfl, hQ H' c ms sK nc ecx m1 m2⟩
      cases hz : ((ns.take 2).map V.int).isEmpty with
      | true =>
        refine ⟨false, .inl ⟨_, .of e2, by rw [hz]; rfl⟩, ?_⟩
        refine iteF ⟨by show 1 ≤ sizeLine; decide, fun c nc => ?_⟩
        have en : ns = [] := by
          cases ns with
          | nil => rfl
          | cons x l => cases hz
        subst en
        exact rest _ c [0] (s2.trans (same_new nc)) (s2.free nc) upd_same (by decide) (by decide) (fun z => absurd z (by decide))
      | false =>
        refine ⟨true, .inl ⟨_, .of e2, by rw [hz]; rfl⟩, ?_⟩
        refine iteT (rest _ l (ns.take 2) s2 nlH e2 ?_ (by rw [List.length_take]; omega) (fun z => by rw [List.length_take]; omega))
        cases ns with
        | nil => cases hz
        | cons x l => rw [List.length_take, List.length_cons]; omega
end
end K90
end

section
set_option Elab.async false
set_option linter.all false
set_option maxRecDepth 100000
set_option maxHeartbeats 4000000
/-! lists of lists, each a list of the heap's own -/
namespace K90
open PySem PySem.Spec PyProof.Rows L2
mutual
inductive LL (H : Hp) : V → PyData → Prop
  | non : LL H .non .none
  | bl (b : Bool) : LL H (.bl b) (.bool b)
  | int (i : Int) : LL H (.int i) (.int i)
  | str (x : Str) : LL H (.str x) (.str x)
  | lst {a : Addr} {xs : List V} {ds : List PyData} : H a = some (.lst xs) → LLs H xs ds → LL H (.ref a) (.list ds)
inductive LLs (H : Hp) : List V → List PyData → Prop
  | nil : LLs H [] []
  | cons {v : V} {vs : List V} {d : PyData} {ds : List PyData} : LL H v d → LLs H vs ds → LLs H (v :: vs) (d :: ds)
end
mutual
theorem LL.same {H H' : Hp} (s : Same H H') : ∀ {v : V} {d : PyData}, LL H v d → LL H' v d
  | _, _, .non => .non
  | _, _, .bl b => .bl b
  | _, _, .int i => .int i
  | _, _, .str x => .str x
  | _, _, .lst h r => .lst (s _ _ h) (LLs.same s r)
theorem LLs.same {H H' : Hp} (s : Same H H') : ∀ {vs : List V} {ds : List PyData}, LLs H vs ds → LLs H' vs ds
  | _, _, .nil => .nil
  | _, _, .cons h r => .cons (LL.same s h) (LLs.same s r)
end
mutual
theorem LL.dp {K : PySem.W.Frag} {H : Hp} : ∀ {v : V} {d : PyData}, LL H v d → Dp K H v d
  | _, _, .non => .non
  | _, _, .bl b => .bl b
  | _, _, .int i => .int i
  | _, _, .str x => .str x
  | _, _, .lst h r => .lst (.of h) (LLs.dp r)
theorem LLs.dp {K : PySem.W.Frag} {H : Hp} : ∀ {vs : List V} {ds : List PyData}, LLs H vs ds → DpAll K H vs ds
  | _, _, .nil => .nil
  | _, _, .cons h r => .cons (LL.dp h) (LLs.dp r)
end
theorem LLs.app {H : Hp} : ∀ {vs ws : List V} {ds es : List PyData}, LLs H vs ds → LLs H ws es → LLs H (vs ++ ws) (ds ++ es)
  | _, _, _, _, .nil, r => r
  | _, _, _, _, .cons h t, r => .cons h (LLs.app t r)
theorem LLs.len {H : Hp} : ∀ {vs : List V} {ds : List PyData}, LLs H vs ds → vs.length = ds.length
  | _, _, .nil => rfl
  | _, _, .cons _ t => congrArg Nat.succ (LLs.len t)
theorem flat_LL {K : PySem.W.Frag} {H H' : Hp} {v : V} {d : PyData} (e : seqD d = none) (h : Dp K H v d) : LL H' v d := by
  cases h with
  | lst _ _ => cases e
  | tup _ _ => cases e
  | non => exact .non
  | bl b => exact .bl b
  | int i => exact .int i
  | str x => exact .str x
/-! ### a list of new things -/
def AccL (H1 : Hp) (D : Addr) (ds : List PyData) (H : Hp) : Prop := Same H1 H ∧ H1 D = none ∧ ∃ acc, H D = some (.lst acc) ∧ LLs (dif (upd H1 D (.lst [])) H) acc ds
theorem AccL.start {H1 : Hp} {D : Addr} (n : H1 D = none) : AccL H1 D [] (upd H1 D (.lst [])) := ⟨same_new n, n, [], upd_same, .nil⟩
theorem AccL.same {H1 H H' : Hp} {D : Addr} {ds : List PyData} (a : AccL H1 D ds H) (s : Same H H') : AccL H1 D ds H' := by
  obtain ⟨s1, n, acc, e, r⟩ := a
  exact ⟨s1.trans s, n, acc, s _ _ e, LLs.same (dif_up s) r⟩
theorem AccL.push {H1 H H2 : Hp} {D : Addr} {ds : List PyData} {d : PyData} {y : V} (a : AccL H1 D ds H) (s : Same H H2) (h : LL (dif H H2) y d) (z : ds.length < sizeLine) :
    ∃ acc, H2 D = some (.lst acc) ∧ acc.length < sizeLine ∧ AccL H1 D (ds ++ [d]) (upd H2 D (.lst (acc ++ [y]))) := by
  obtain ⟨s1, n, acc, e, r⟩ := a
  have nD : dif (upd H1 D (.lst [])) H2 D = none := by unfold dif; rw [upd_same]
  have sd : Same (dif (upd H1 D (.lst [])) H2) (dif (upd H1 D (.lst [])) (upd H2 D (.lst (acc ++ [y])))) := fun b u q => by
    have hb : b ≠ D := fun z => by rw [z, nD] at q; cases q
    unfold dif at q ⊢
    split at q
    · exact (upd_ne hb).trans q
    · cases q
  have s2 : Same (dif H H2) (dif (upd H1 D (.lst [])) H2) := fun b u q => by
    unfold dif at q
    split at q
    · rename_i hn
      have hb : b ≠ D := fun z => by rw [z, e] at hn; cases hn
      refine dif_at ?_ q
      rw [upd_ne hb]
      exact s1.free hn
    · cases q
  refine ⟨acc, s _ _ e, by rw [r.len]; exact z, fun b u q => by rw [upd_ne (ne_of_none q n)]; exact s _ _ (s1 b u q), n, acc ++ [y], upd_same, ?_⟩
  exact LLs.app (LLs.same ((dif_up s).trans sd) r) (.cons (LL.same (s2.trans sd) h) .nil)
theorem AccL.dp {H1 H : Hp} {D : Addr} {ds : List PyData} (a : AccL H1 D ds H) : LL (dif H1 H) (.ref D) (.list ds) := by
  obtain ⟨s, n, acc, e, r⟩ := a
  exact .lst (dif_at n e) (LLs.same (dif_mono (same_new n)) r)
theorem comp_seqL {K : PySem.W.Frag} {xs : List V} {a : Addr} {H1 : Hp} (h : SqA K H1 a xs) (ds : List PyData) (hl : ds.length = xs.length) {g : TG} {tt : TT} {te : TE} {vs : List Nat} {σ : L2.St} {Q : VK}
    (hs : ∀ D i x H, H1 D = none → xs[i]? = some x → i < xs.length → AccL H1 D (ds.take i) H → LcTurn g tt te vs σ D (AccL H1 D (ds.take (i + 1))) x H) (hd : ∀ D H, AccL H1 D ds H → Q (.ref D) H) :
    ((∃ xs, SqL K H1 a xs) ∧ LcR g tt te vs σ Q (Itl K a) H1) ∨ ((∃ xs, SqT K H1 a xs) ∧ LcR g tt te vs σ Q (Itt K a) H1) := by
  have hd' : ∀ D H, AccL H1 D (ds.take xs.length) H → Q (.ref D) H := fun D H a => hd D H (by rw [List.take_of_length_le (by omega)] at a; exact a)
  rcases h with h | h
  · exact .inl ⟨⟨xs, h⟩, fun D nD => lc_it walk_list (fun i H => AccL H1 D (ds.take i) H) (AccL.start nD) (fun i H _ a => a.1.seq h) (fun i x H H' hi a y => by
      obtain ⟨e, y⟩ := y
      subst e
      exact hs D i x _ nD y hi a) (hd' D)⟩
  · exact .inr ⟨⟨xs, h⟩, fun D nD => lc_it walk_tup (fun i H => AccL H1 D (ds.take i) H) (AccL.start nD) (fun i H _ a => same_tup a.1 h) (fun i x H H' hi a y => by
      obtain ⟨e, y⟩ := y
      subst e
      exact hs D i x _ nD y hi a) (hd' D)⟩
def spListsL (K : PySem.W.Frag) (n : Nat) : Sp := fun vs H Q _ => ∃ (v : V) (d : PyData), vs = [v] ∧ Dp K H v d ∧ smD n d = true ∧ ∀ (H' : Hp) (v' : V), Same H H' → LL (dif H H') v' (lstN n d) → Q v' H'
def spListsLI (K : PySem.W.Frag) : Nat → Sp
  | 0 => fun _ _ _ _ => False
  | f + 1 => spListsL K f
section
variable {w : World} {K : PySem.W.Frag} {mg : Str → Option Value} {base : Heap}
theorem ok_listsL_step (T : Txt K mg) (n : Nat) (ih : FnX w K mg base CX0 n ("_law_lists", none) (spListsLI K n)) : FnX w K mg base CX0 (n + 1) ("_law_lists", none) (spListsL K n) := by
  refine fnr (ps := ["_law_matter"]) (T.fn 37) sc_L_lists ?ln ?bd (fun _ _ _ _ _ _ us hl => match us, hl with | [_], _ => rfl)
  case ln =>
    rintro _ _ _ _ ⟨v, d, rfl, _⟩
    rfl
  case bd =>
    intro cdv A outer s H vs Q E hr h
    apply bodyN
    case h =>
      exact pss_one (ps_ret (pe_ifExp
          (pt_val (pe_callB call_isiT (by rfl) T.free boot_isi (pa_cons (pv 0) (pa_cons (pe_tup (pa_cons (pe_bltn (v := .ty "list") (by rfl) T.free boot_list rfl) (pa_cons (pe_bltn (v := .ty "tuple") (by rfl) T.free boot_tuple rfl) pa_nil))) pa_nil))))
          (pe_lcR (own := [("_law_bit", 1)]) (g := gName 1) (tt := tYes) (by rfl) sc_L_lists.nd (pi_seq (pv 0)) (blkOk_by (own := [("_law_bit", 1)]) (N := N_L_lists) (sc := defScope s_L_lists) (by decide +kernel))
            (fun _ _ _ _ _ => pg_name (i := 1) sc_L_lists.nd rfl (.inl rfl)) (fun _ _ _ _ _ => pts_nil) (fun _ _ _ _ _ => pe_cR ih hr (by rfl) T.glo (T.kp (d := d_L_lists) 37) pass0 (pa_cons (pv 1) pa_nil))) (pv 0)))
    case r =>
      obtain ⟨v, d, rfl, hd, hs, hQ⟩ := h
      refine ⟨_, rfl, by show 2 ≤ sizeLine; decide, fun p np => ?_⟩
      have s1 := same_new (o := .tup [V.ty "list", V.ty "tuple"]) np
      have hd1 := hd.same s1
      have e1 : upd H p (.tup [V.ty "list", V.ty "tuple"]) p = some (.tup [V.ty "list", V.ty "tuple"]) := upd_same
      generalize upd H p (.tup [V.ty "list", V.ty "tuple"]) = H1 at s1 hd1 e1 ⊢
      obtain ⟨ty, h1, h2⟩ := ty_dp hd1
      refine ⟨_, _, _, _, _, _, rfl, e1, clsV2 (K := K), h2, kit_seq h1, _, rfl, ?_⟩
      cases e : seqD d with
      | none =>
        refine iteF ⟨_, rfl, hQ H1 v s1 ?_⟩
        rw [lstN_flat e]
        exact flat_LL e hd
      | some ds =>
        refine iteT ?_
        obtain ⟨m, rfl, hlen, hall, _⟩ := smD_seq hs e
        obtain ⟨a, xs, rfl, hsq, hit⟩ : ∃ a xs, v = .ref a ∧ SqA K H1 a xs ∧ DpAll K H1 xs ds := by
          cases d with
          | list es =>
            cases e
            obtain ⟨a, xs, z, q1, q2⟩ := hd1.lstI
            exact ⟨a, xs, z, .inl q1, q2⟩
          | tuple es =>
            cases e
            obtain ⟨a, xs, z, q1, q2⟩ := hd1.tupI
            exact ⟨a, xs, z, .inr q1, q2⟩
          | _ => cases e
        have hl := hit.len
        refine ⟨_, rfl, a, rfl, comp_seqL hsq (ds.map (lstN m)) (by rw [List.length_map]; omega) (fun D i x H2 nD hx hi acc => ?_) fun D H2 acc => ?_⟩
        · obtain ⟨di, hdi, hx1⟩ := hit.get hx
          refine ⟨rfl, yes_t ⟨x, rfl, x, di, rfl, hx1.same acc.1, hall di (List.mem_of_getElem? hdi), fun H3 y s3 hy => ?_⟩⟩
          have et : (ds.map (lstN m)).take (i + 1) = (ds.map (lstN m)).take i ++ [lstN m di] := by
            rw [List.take_add_one, List.getElem?_map, hdi]
            rfl
          rw [et]
          exact acc.push s3 hy (small1000 (by rw [List.length_take, List.length_map]; omega))
        · refine hQ H2 _ (s1.trans acc.1) ?_
          rw [lstN_seq e]
          exact LL.same (dif_mono s1) acc.dp
theorem ok_L_listsL (T : Txt K mg) : ∀ n, FnX w K mg base CX0 (n + 1) ("_law_lists", none) (spListsL K n)
  | 0 => ok_listsL_step T 0 fun _ _ _ _ _ _ _ _ _ _ _ h => h.elim
  | n + 1 => ok_listsL_step T (n + 1) (ok_L_listsL T n)
end
end K90
end

section
set_option Elab.async false
set_option linter.all false
set_option maxRecDepth 100000
set_option maxHeartbeats 4000000
/-! an exception kept beyond its except suite -/
namespace K90
open PySem PySem.Spec PyProof.Rows L2
/-- a caught exception at a: its class, its dict -/
def ExK (cls : Value) (d : Option Addr) (a : Addr) : HO := .ext fun h => ∃ (oe : Obj) (vs : Array Value), h.get? a = some oe ∧ Zc cls d oe ∧ oe.data = .fields vs
theorem exK_ok {P : Program} {w : World} {H : Hp} {h : Heap} {a : Addr} {cls : Value} {d : Option Addr} {oe : Obj} {vs : Array Value} (e : h.get? a = some oe) (z : Zc cls d oe) (hd : oe.data = .fields vs) : ObjOk P w H h a (ExK cls d a) :=
  ⟨⟨oe, vs, e, z, hd⟩, ⟨oe, e⟩, fun _ _ ⟨o, v, q, r⟩ k => ⟨o, v, k o q, r⟩⟩
section
variable {X : Cx} {pins : List (Addr × Obj)} {σ : L2.St} {H : Hp} {s : Shared}
theorem Inv.track {a : Addr} {cls : Value} {d : Option Addr} {oe : Obj} {vs : Array Value} (I : Inv X pins σ H s) (e : s.heap.get? a = some oe) (z : Zc cls d oe) (hd : oe.data = .fields vs) (na : H a = none) (nL : a ≠ X.env.locals) (n0 : X.s_0.heap.get? a = none)
    (np : ∀ p ∈ X.pn ++ pins, p.1 ≠ a) : Inv X pins σ (upd H a (ExK cls d a)) s := by
  refine ⟨I.ok, I.os, I.bare, ⟨I.base.keep, I.base.slot, fun b o q n hx => ?_, I.base.there, fun b xs q => ?_, fun b o xs q => ?_, fun b ps q => ?_⟩, I.loc, I.cell, ?_, fun x c q => ?_, fun p hp => ?_, I.hok.laidN (fun _ _ q => q) na (exK_ok e z hd), I.len⟩
  · rw [upd_ne (fun z => by rw [z, n0] at q; cases q)]
    exact I.base.free b o q n hx
  · rw [upd_ne (ne_of_none (I.base.tups b xs q) na)]
    exact I.base.tups b xs q
  · rw [upd_ne (ne_of_none (I.base.frzs b o xs q) na)]
    exact I.base.frzs b o xs q
  · obtain ⟨m, q'⟩ := I.base.tbls b ps q
    refine ⟨m, ?_⟩
    rw [upd_ne (ne_of_none q' na)]
    exact q'
  · rw [upd_ne (Ne.symm nL)]
    exact I.free
  · have hc : c ≠ a := fun z' => by
      obtain ⟨v, o, h1, h2⟩ := I.cell x c q
      rw [z', e] at h1
      cases h1
      rw [hd] at h2
      cases h2
    rw [upd_ne hc]
    exact I.freeC x c q
  · obtain ⟨h1, h2, h3⟩ := I.pin p hp
    exact ⟨h1, by rw [upd_ne (np p hp)]; exact h2, h3⟩
theorem Inv.suite0 (I : Inv X pins σ H s) (a : Addr) : Inv (X.suite a (X.pn ++ pins)) [] σ H s :=
  ⟨I.ok.suite _ _, I.os, I.bare, I.base, I.loc, I.cell, I.free, I.freeC, fun p hp => I.pin p (by rw [List.append_nil] at hp; exact hp), I.hok, I.len⟩
theorem Inv.unsuite0 {a : Addr} {pn' : List (Addr × Obj)} (I : Inv (X.suite a (X.pn ++ pins)) pn' σ H s) (ok : X.Ok) : Inv X pins σ H s :=
  ⟨ok, I.os, I.bare, I.base, I.loc, I.cell, I.free, I.freeC, fun p hp => I.pin p (List.mem_append_left _ hp), I.hok, I.len⟩
end
theorem flyingZ_keeps {B h h' : Heap} {l : List Env} {e : Addr} {Z : Obj → Prop} (R : HandSPX.FlyingZ B l e Z h) (k : ∀ b o, h.get? b = some o → h'.get? b = some o) : HandSPX.FlyingZ B l e Z h' := by
  obtain ⟨f1, f2, f3, oe, vs, T, oT, ts, he, hz, hd, h1, hn, hne, hT, hdT, h3⟩ := R
  exact ⟨fun b o q => k b o (f1 b o q), f2, Heap.FunFrames.of_keeps (fun b o q _ => ⟨o, k b o q, rfl⟩) f3, oe, vs, T, oT, ts, k _ _ he, hz, hd, h1, hn, hne, k _ _ hT, hdT, h3⟩
/-- the class expression of an except clause matches the classes of Tm -/
def TestT (X : Cx) (ty : Expr) (Tm : Value → Prop) : Prop := ∀ (a : Addr) (pn : List (Addr × Obj)) (σ : L2.St) (H : Hp) (s : Shared) (cls : Value) (Q : Bool → Shared → Prop) (E : Value → Shared → Prop), Inv (X.suite a pn) [] σ H s →
  PySem.W.Looks (model X.prog X.w) s.heap (typeOf (.ref a)) cls → Tm cls → (∀ h', (∀ b o, s.heap.get? b = some o → h'.get? b = some o) → Q true { s with heap := h' }) →
  wpAny (model X.prog X.w) (X.A.mark (some (.ref a))) (eval ty X.env) (fun c s₁ => wpAny (model X.prog X.w) (X.A.mark (some (.ref a))) (excMatches (.ref a) c) Q E s₁) E s
/-- what the clause wishes of an exception of the body: slot i is its name's -/
def wKeep (Tm : Value → Prop) (i : Nat) (ts : TS) (D : Ends) : WX := fun cls d σ H => Tm cls ∧ ∀ a, H a = none →
  ts { nx := fun σ' H' => D.nx (σ'.set i none) H', rt := D.rt, bk := fun σ' H' => D.bk (σ'.set i none) H', ct := fun σ' H' => D.ct (σ'.set i none) H' } (σ.set i (some (.ref a))) (upd H a (ExK cls d a))
section
variable {X : Cx} {ty : Expr} {n : Str} {Tm : Value → Prop} {i : Nat} {body suite : List Stmt} {b₀ : Stmt} {pos pos' : Pos} {tb : WX → TS} {ts : TS}
theorem ps_try_keep (hs : X.stack = X.env :: X.outer) (hf : X.env.frame = some X.env.locals) (hex : X.ex = []) (hN : X.N.Nodup) (hi : X.N[i]? = some n) (hln : X.env.kindOf n = some .local) (hT : TestT X ty Tm)
    (hb : ∀ (W : WX) (pn : List (Addr × Obj)) (xe : Value → Shared → Prop), Takes (X.tr pn xe) W → PassesOwn (model X.prog X.w) X.A X.env xe → PSs (X.tr pn xe) body (tb W))
    (hsu : ∀ (a : Addr) (pn : List (Addr × Obj)), PSs (X.suite a pn) (b₀ :: suite) ts) :
    PS X (.Try body [.ExceptHandler (some ty) (some n) (b₀ :: suite) pos'] [] [] pos) (fun D σ H => tb (wKeep Tm i ts D) D σ H) := by
  refine ⟨fun pins s σ H D I h => ?_⟩
  have ok := I.ok
  have hfr : X.A.frames = some (X.env :: X.outer) := by rw [ok.frames, hs]
  have hloc : Loc X.env.scope n := .inl hln
  refine wpAny_Try_except ?_
  refine wpAny_mono ((hb (wKeep Tm i ts D) (X.pn ++ pins) (fun e s₁ => wpAny (model X.prog X.w) X.A (noteFrame e X.env) (fun _ s₂ => wpAny (model X.prog X.w) X.A (setFlight e none) (fun _ s₃ =>
    wpAny (model X.prog X.w) X.A (handleBy e X.env [.ExceptHandler (some ty) (some n) (b₀ :: suite) pos']) (SP X pins D) X.xe s₃) X.xe s₂) X.xe s₁) (fun u s' xx => ?_) PassesOwn.looking).run [] s σ H D (I.toTry _) h) (fun f s1 hsp => ?_) (fun e s1 he => he)
  · obtain ⟨a, B, sI, pins', σ', H', cls, d, rfl, J', nb, up, sky, na, os, ag, tm, hyes⟩ := xx
    have J : Inv X pins σ' H' sI := J'.ofTry ok
    have sky' : Sky B (X.env :: X.outer) a (Zc cls d) X.env.locals s'.heap := by rw [← hs]; exact sky
    show wpAny (model X.prog X.w) X.A (noteFrame (.ref a) X.env) _ _ _
    refine Sky.land Zc.steady hfr hf sky' fun h3 fl3 up3 => ?_
    have J3 : Inv X pins σ' H' { s' with heap := h3 } := J.landed nb fl3.1 (up.trans up3) os ag
    obtain ⟨oe3, vs3, he3, hz3, hd3⟩ := fl3.there
    have notFr : ∀ {h : Heap} {o : Obj} {vs : Array Value}, h.FunFrames B (X.env :: X.outer) → h.get? a = some o → o.data = .fields vs → a ∉ frs (X.env :: X.outer) := fun {h o vs} ff e dd hm => by
      obtain ⟨_, o', e', hnf⟩ := ff.mem hm
      rw [e] at e'; cases e'
      exact hnf _ dd
    have nfr := notFr fl3.2.2.1 he3 hd3
    have nL : a ≠ X.env.locals := fun z => nfr (List.mem_filterMap.mpr ⟨X.env, List.mem_cons_self, by rw [hf, z]⟩)
    have nfr' : a ∉ frs X.stack := by rw [hs]; exact nfr
    have nB : B.get? a = none := fl3.2.1
    have nI : sI.heap.get? a = none := by
      cases q : sI.heap.get? a with
      | none => rfl
      | some o =>
        have z := nb a o q nfr'
        rw [nB] at z
        cases z
    have n0 : X.s_0.heap.get? a = none := by
      cases q : X.s_0.heap.get? a with
      | none => rfl
      | some o =>
        obtain ⟨o', z⟩ := J.base.there a o q (by rw [hex]; exact fun z => nomatch z)
        rw [nI] at z
        cases z
    have npn : ∀ p ∈ X.pn ++ pins, p.1 ≠ a := fun p hp z => by
      have q := (J.pin p hp).1
      rw [z, nI] at q
      cases q
    have S3 := Inv.suite0 J3 a
    have LT : PySem.W.Looks (model X.prog X.w) h3 (typeOf (.ref a)) cls := fun A Q E s k q => wpAny_typeOf_ref (k _ _ he3) (by rw [hz3.1]; exact q)
    refine wpAny_handleBy_cons (codeAny_handlers_test ?_) (by intro q; cases q)
    refine hT a (X.pn ++ pins) σ' H' { s' with heap := h3 } cls _ _ S3 LT tm fun h4 k4 => ?_
    refine codeAny_handlers_suite_as ?_
    have fl4 := flyingZ_keeps fl3 k4
    have up4 : h3.UpToSlots h4 := Heap.UpToSlots.of_keeps k4
    refine HandSPX.lands_againZ fl4 fun h5 fl5 up5 => ?_
    have J5 : Inv X pins σ' H' { s' with heap := h5 } := J.landed nb fl5.1 (((up.trans up3).trans up4).trans up5) os ag
    obtain ⟨oe5, vs5, he5, hz5, hd5⟩ := fl5.there
    have K5 : Inv X pins σ' (upd H' a (ExK cls d a)) { s' with heap := h5 } := Inv.track J5 he5 hz5 hd5 na nL n0 npn
    have S5 := Inv.suite0 K5 a
    refine store_ok (X := X.suite a (X.pn ++ pins)) (v := .ref a) S5 hN hi hloc rfl (fun s6 S6 => ?_) (.inr hln)
    refine wpAny_mono ((hsu a (X.pn ++ pins)).run [] s6 _ _ _ S6 (hyes a na)) (fun f s7 hsp => ?_) (fun _ _ z => False.elim z)
    have end_ : ∀ {σ6 : L2.St} {H6 : Hp} {Q : Shared → Prop}, Inv (X.suite a (X.pn ++ pins)) [] σ6 H6 s7 → (∀ s8, Inv X pins (σ6.set i none) H6 s8 → Q s8) →
        wpAny (model X.prog X.w) X.A (do bindName X.env n .none; unbindBehindTheSuite X.env n pos') (fun _ s8 => Q s8) X.xe s7 := fun {σ6 H6 Q} S6 hq => gone_ok (Inv.unsuite0 S6 ok) hN hi hln hq
    cases f with
    | next =>
      obtain ⟨σ6, H6, S6, q6⟩ := hsp
      exact end_ S6 fun s7 J7 => ⟨_, _, J7, q6⟩
    | brk =>
      obtain ⟨σ6, H6, S6, q6⟩ := hsp
      exact end_ S6 fun s7 J7 => ⟨_, _, J7, q6⟩
    | cont =>
      obtain ⟨σ6, H6, S6, q6⟩ := hsp
      exact end_ S6 fun s7 J7 => ⟨_, _, J7, q6⟩
    | ret u =>
      obtain ⟨v6, σ6, H6, S6, r6, q6⟩ := hsp
      exact end_ S6 fun s7 J7 => ⟨_, _, _, J7, r6, q6⟩
  · cases f with
    | next =>
      obtain ⟨σ', H', J', q⟩ := hsp
      exact wpAny_execs_nil ⟨σ', H', J'.ofTry ok, q⟩
    | brk =>
      obtain ⟨σ', H', J', q⟩ := hsp
      exact ⟨σ', H', J'.ofTry ok, q⟩
    | cont =>
      obtain ⟨σ', H', J', q⟩ := hsp
      exact ⟨σ', H', J'.ofTry ok, q⟩
    | ret u =>
      obtain ⟨v, σ', H', J', r, q⟩ := hsp
      exact ⟨v, σ', H', J'.ofTry ok, r, q⟩
end
end K90
namespace PySem.W
open PySem PySem.Spec PySem.Calls PyProof.Rows
theorem exm_tup5 {M : Model} {K : Frag} {c1 c2 c3 c4 c5 cls : Value} {tp e : Addr} {b : Bool} {h : Heap} (X : K.In h) (LT : Looks M h (typeOf (.ref e)) cls) (hp : h.get? tp = some { cls := .type "tuple", data := .seq [c1, c2, c3, c4, c5].toArray }) (hx : exmAny K cls [c1, c2, c3, c4, c5] = some b) :
    Looks M h (excMatches (.ref e) (.ref tp)) b := by
  intro A Q E s k₀ q
  obtain ⟨hh, g, d, tk, os⟩ := s
  have k : ∀ b o, h.get? b = some o → hh.get? b = some o := k₀
  have LT0 : Looks M h (isInstance (.ref tp) (.type "tuple")) true := ((Looks.ld hp).andThen .now).andThen (Looks.of_pure isSubtype_tuple_tuple)
  obtain ⟨b1, d1, x1, y1, z1⟩ := exmAny_cons hx
  obtain ⟨e1, S1⟩ := exm_cls (M := M) X x1
  have e1 := e1.keeps k
  have S1 := S1.keeps k
  obtain ⟨b2, d2, x2, y2, z2⟩ := exmAny_cons y1
  obtain ⟨e2, S2⟩ := exm_cls (M := M) X x2
  have e2 := e2.keeps k
  have S2 := S2.keeps k
  obtain ⟨b3, d3, x3, y3, z3⟩ := exmAny_cons y2
  obtain ⟨e3, S3⟩ := exm_cls (M := M) X x3
  have e3 := e3.keeps k
  have S3 := S3.keeps k
  obtain ⟨b4, d4, x4, y4, z4⟩ := exmAny_cons y3
  obtain ⟨e4, S4⟩ := exm_cls (M := M) X x4
  have e4 := e4.keeps k
  have S4 := S4.keeps k
  obtain ⟨b5, d5, x5, y5, z5⟩ := exmAny_cons y4
  obtain ⟨e5, S5⟩ := exm_cls (M := M) X x5
  have e5 := e5.keeps k
  have S5 := S5.keeps k
  have wn : some false = some d5 := y5
  cases wn
  have LT := LT.keeps k
  have LT0 := LT0.keeps k
  have hp' := k _ _ hp
  subst z1 z2 z3 z4 z5
  unfold excMatches
  refine wpAny_bind (LT0.at ?_)
  dsimp only
  rw [if_pos rfl]
  first
    | refine wpAny_bind (wpAny_seqItems hp' rfl ?_)
    | refine wpAny_bind (wpAny_bind (wpAny_seqItems hp' rfl (wpAny_pure ?_)))
  dsimp only [Option.getD_some, Option.getD]
  cases b1 <;> cases b2 <;> cases b3 <;> cases b4 <;> cases b5 <;> ((repeat (first | simp only [List.forIn_cons, List.forIn_nil, Bool.not_true, Bool.false_eq_true, if_false, if_true] | lk)); exact q)
end PySem.W
namespace K90
open PySem PySem.Spec PyProof.Rows L2
section
variable {X : Cx}
theorem test_one {x : Str} {c : Value} {np : Pos} (hg : Gl X x) (hm : X.mg x = some c) (hd : (x == ("__debug__" : Str)) = false := by decide) : TestT X (.Name x np) (fun cls => PySem.W.exmOne X.K cls c = some true) := fun a pn σ H s cls Q E I LT tm hq =>
  ld_glob (X := X.suite a pn) I hg hm ((PySem.W.exm_one (M := model X.prog X.w) I.kIn LT tm).here (hq s.heap fun _ _ z => z)) hd
theorem test_five {x1 x2 x3 x4 x5 : Str} {c1 c2 c3 c4 c5 : Value} {p1 p2 p3 p4 p5 tp : Pos} {kk : Nat} (g1 : Gl X x1) (m1 : X.mg x1 = some c1) (g2 : Gl X x2) (m2 : X.mg x2 = some c2) (g3 : Gl X x3) (m3 : X.mg x3 = some c3) (g4 : Gl X x4) (m4 : X.mg x4 = some c4) (g5 : Gl X x5) (m5 : X.mg x5 = some c5)
    (d1 : (x1 == ("__debug__" : Str)) = false := by decide) (d2 : (x2 == ("__debug__" : Str)) = false := by decide) (d3 : (x3 == ("__debug__" : Str)) = false := by decide) (d4 : (x4 == ("__debug__" : Str)) = false := by decide) (d5 : (x5 == ("__debug__" : Str)) = false := by decide) :
    TestT X (.Tuple [.Name x1 p1, .Name x2 p2, .Name x3 p3, .Name x4 p4, .Name x5 p5] kk tp) (fun cls => PySem.W.exmAny X.K cls [c1, c2, c3, c4, c5] = some true) := fun a pn σ H s cls Q E I LT tm hq => by
  refine wpAny_Tuple ?_
  refine wpAny_items_cons (ld_glob (X := X.suite a pn) I g1 m1 ?_ d1)
  refine wpAny_items_cons (ld_glob (X := X.suite a pn) I g2 m2 ?_ d2)
  refine wpAny_items_cons (ld_glob (X := X.suite a pn) I g3 m3 ?_ d3)
  refine wpAny_items_cons (ld_glob (X := X.suite a pn) I g4 m4 ?_ d4)
  refine wpAny_items_cons (ld_glob (X := X.suite a pn) I g5 m5 ?_ d5)
  refine wpAny_items_nil ⟨by size_fits, ?_⟩
  have kp : ∀ q o, s.heap.get? q = some o → (s.heap.push { cls := .type "tuple", data := .seq [c1, c2, c3, c4, c5].toArray }).get? q = some o := fun _ _ z => Heap.get?_push_of_some _ z
  exact (PySem.W.exm_tup5 (I.kIn.keeps kp) (LT.keeps kp) (Heap.get?_push_size s.heap rfl) tm).here (hq _ kp)
/-- isinstance(e, c), e kept -/
def rIsX (K : PySem.W.Frag) (D : Addr) : List V → Hp → VK → Prop := fun xs H Q => ∃ (a : Addr) (d : Option Addr) (c : V) (u : Value) (b : Bool), xs = [.ref a, c] ∧ H a = some (ExK (.ref D) d a) ∧ (∀ dx, d = some dx → ∃ fs, H dx = some (.xd fs)) ∧ ClsV c u ∧ PySem.W.kitOne K (.ref D) u = some b ∧ Q (.bl b) H
theorem inst_exk {pins : List (Addr × Obj)} {σ : L2.St} {H : Hp} {s : Shared} {a D : Addr} {d : Option Addr} (I : Inv X pins σ H s) (ha : H a = some (ExK (.ref D) d a)) (hx : ∀ dx, d = some dx → ∃ fs, H dx = some (.xd fs)) : ∃ oe od, PySem.W.InstAt s.heap a oe D od ∧ (d = none → od = none) ∧ ∀ dx, d = some dx → ∃ o, od = some o ∧ s.heap.get? dx = some o := by
  have z : ObjOk X.prog X.w H s.heap a (.ext fun h => ∃ (oe : Obj) (vs : Array Value), h.get? a = some oe ∧ Zc (.ref D) d oe ∧ oe.data = .fields vs) := I.hok a _ ha
  obtain ⟨⟨oe, vs, he, hz, hd⟩, _⟩ := z
  obtain ⟨oc, od, oda, osl⟩ := oe
  obtain ⟨h1, h2⟩ := hz
  dsimp only at h1 h2 hd
  subst h1 h2 hd
  cases od with
  | none => exact ⟨_, none, ⟨he, rfl, rfl, trivial⟩, fun _ => rfl, fun _ z => nomatch z⟩
  | some dx =>
    obtain ⟨fs, hfs⟩ := hx dx rfl
    have hx2 : ObjOk X.prog X.w H s.heap dx (.xd fs) := I.hok dx _ hfs
    obtain ⟨mA, hns, hr⟩ := hx2
    obtain ⟨o, ho, hl⟩ := lookIn_ns hns
    exact ⟨_, some o, ⟨he, rfl, rfl, ho⟩, (fun z => nomatch z), fun dx' e => by cases e; exact ⟨o, rfl, ho⟩⟩
theorem call_isX {D : Addr} (C : ExcC X.K D) : CallR X (.builtin "isinstance") (rIsX X.K D) := by
  intro pins s σ H xs us Q I r h
  obtain ⟨a, d, c, u, b, rfl, ha, hd, k, e, q⟩ := h
  obtain ⟨u1, u2, rfl, r1, r2⟩ := vals2 r
  obtain rfl : u1 = Value.ref a := r1
  have e2 := k.eq r2
  subst e2
  obtain ⟨oe, od, J, _⟩ := inst_exk I ha hd
  exact PySem.W.kia_one (PySem.W.kitx_exc (by obtain ⟨cd, hc, _⟩ := PySem.W.any_some C.hd; rw [hc]; rfl) C.hg C.hk C.hs C.ha C.hn C.ht C.hm) I.kIn J e (fun z => nomatch z) fun tk => ⟨.bl b, H, I.tok tk, rfl, q⟩
/-- e.f, e kept -/
def tXk (D : Addr) (f : Str) (te : TE) : TE := fun σ H Q => te σ H fun x H1 => ∃ (a dd : Addr) (fs : List (Str × V)) (v : V), x = .ref a ∧ H1 a = some (ExK (.ref D) (some dd) a) ∧ H1 dd = some (.xd fs) ∧ fs.lookup f = some v ∧ Q v H1
theorem pe_xk {D : Addr} {e : Expr} {te : TE} {pos : Pos} {n : Str} (T : XfC X.K D) (hno : PySem.W.findIn X.K (.ref D) n = some none) (he : PE X e te) (hb : attributeBase e n X.env (eval e X.env) = eval e X.env := by rfl) : PE X (.Attribute e n pos) (tXk D n te) := by
  refine ⟨fun pins s σ H Q I h => ?_⟩
  refine attr_of hb (thn (he.run pins s σ H _ I h) fun u s1 hh => ?_)
  obtain ⟨x, H1, I1, rx, a, dd, fs, v, rfl, ha, hd, l, q⟩ := hh
  obtain rfl : u = Value.ref a := rx
  obtain ⟨oe, od, J, _, hod⟩ := inst_exk I1 ha fun dx e => by cases e; exact ⟨fs, hd⟩
  have hx : ObjOk X.prog X.w H1 s1.heap dd (.xd fs) := I1.hok dd _ hd
  obtain ⟨mA, hns, hr⟩ := hx
  obtain ⟨o, ho, hl⟩ := lookIn_ns hns
  obtain ⟨o', eo, ho'⟩ := hod dd rfl
  rw [ho] at ho'
  cases ho'
  subst eo
  obtain ⟨u, hu, ru⟩ := RelO.some_of (v := v) (o := mA n) (by rw [← l]; exact hr n)
  exact HandSPX.exc_get I1.kIn J T.ga T.gg T.exC (PySem.W.findObj_own T.hdC hno rfl (by rw [hl, hu])) (handed_of ru) ⟨v, H1, I1.tok _, ru, q⟩
end
end K90
end

section
set_option Elab.async false
set_option linter.all false
set_option maxRecDepth 100000
set_option maxHeartbeats 4000000
/-! the law's done -/
namespace K90
open PySem PySem.Spec PyProof.Rows L2
section
variable {X : Cx} {CX : CXT} {k : Nat} {C g : Addr} {sp : Sp} {E : L2.St → XK} {o : Expr} {m : Str} {ta : TE} {pos apos : Pos}
theorem run_fnRS {pins : List (Addr × Obj)} {σ : L2.St} {H : Hp} {s : Shared} {Q : VK} {f : Addr} {us : List Value} {vs : List V} (F : FnR X.prog X.w X.K X.mg X.base CX k f sp) (hr : Room k X.A) (hx : PassesAt CX X σ (E σ))
    (I : Inv X pins σ H s) (r : Vals vs us) (h : sp vs H Q (E σ)) : wpAny (model X.prog X.w) X.A (call (.ref f) us) (EP X pins σ Q) X.xe s := by
  refine wpAny_call (codeAny_mono (F X.A X.stack s H us vs Q (E σ) hr I.env0 r h) fun r s' hq => ?_)
  cases r with
  | error e => exact hx pins H s e s' I hq
  | ok fl =>
    cases fl with
    | ret u => exact I.after hq
    | next => exact False.elim hq
    | brk => exact False.elim hq
    | cont => exact False.elim hq
def tMethS (C : Addr) (sp : Sp) (E : L2.St → XK) (ta : TE) (t : TA) : TE := fun σ H Q => ta σ H fun x H1 => ∃ a dx vs, x = .ref a ∧ SlX.Slt H1 a C dx vs ∧ t σ H1 fun ws H2 => sp (.ref a :: ws) H2 Q (E σ)
/-- o.m(), what it may let out by the slots -/
theorem pe_methS0 {pl : Sem Bool} (he : PE X o ta) (c : SlX.SCls X.K C) (hm : Meth X.K C m g) (F : FnR X.prog X.w X.K X.mg X.base CX k g sp) (hr : Room k X.A) (hx : ∀ σ, PassesAt CX X σ (E σ))
    (ht : eval (.Call (.Attribute o m apos) [] [] pos) X.env = (do
      let ov ← eval o X.env
      standAt apos.atName
      let (f, first) ← holding [ov] (getMethod ov m pl)
      callWith pos f first (backTo pos (starEach [] X.env)) (backToKw pos (keywordEach [] X.env))) := by rfl) :
    PE X (.Call (.Attribute o m apos) [] [] pos) (tMethS C sp E ta tNil) := by
  refine ⟨fun pins s σ H Q I h => ?_⟩
  refine PySem.W.methodCall_KW (pl := pl) (thn (he.run pins s σ H _ I h) fun u s1 ⟨x, H1, I1, rx, a, dx, vs, ex, hsl, q⟩ => ?_) ht
  subst ex
  obtain rfl : u = Value.ref a := rx
  refine SlX.getmethsl_ok I1 hsl c hm ?_
  exact PySem.W.callWith_K0 (first := [.ref a]) I1.kIn hm.kp (run_fnRS (us := [.ref a]) (vs := [.ref a]) F hr (hx σ) I1 (.cons rfl .nil) q)
/-- o.m(e) -/
theorem pe_methS {pl : Sem Bool} {e : Expr} {es : List Expr} {t : TA} (he : PE X o ta) (c : SlX.SCls X.K C) (hm : Meth X.K C m g) (F : FnR X.prog X.w X.K X.mg X.base CX k g sp) (hr : Room k X.A) (hx : ∀ σ, PassesAt CX X σ (E σ)) (ha : PA X (e :: es) t)
    (hst : starEach (e :: es) X.env = (false, eval e X.env) :: starEach es X.env := by rfl) (hpl : (backTo pos (starEach es X.env)).any (·.1) = false := by rfl)
    (ht : eval (.Call (.Attribute o m apos) (e :: es) [] pos) X.env = (do
      let ov ← eval o X.env
      standAt apos.atName
      let (f, first) ← holding [ov] (getMethod ov m pl)
      callWith pos f first (backTo pos (starEach (e :: es) X.env)) (backToKw pos (keywordEach [] X.env))) := by rfl) :
    PE X (.Call (.Attribute o m apos) (e :: es) [] pos) (tMethS C sp E ta t) := by
  refine ⟨fun pins s σ H Q I h => ?_⟩
  refine PySem.W.methodCall_KW (pl := pl) (thn (he.run pins s σ H _ I h) fun u s1 ⟨x, H1, I1, rx, a, dx, vs, ex, hsl, q⟩ => ?_) ht
  subst ex
  obtain rfl : u = Value.ref a := rx
  refine SlX.getmethsl_ok I1 hsl c hm ?_
  refine PySem.W.callWith_K (first := [.ref a]) (h₀ := X.base) I.ok.mod.kin hm.kp (thn (ha.run pos pins s1 σ H1 _ I1 q) fun us s2 ⟨ws, H2, I2, r, q2⟩ => ⟨I2.kIn, ?_⟩) hst hpl
  exact run_fnRS (us := .ref a :: us) (vs := .ref a :: ws) F hr (hx σ) I2 (.cons rfl r) q2
theorem run_fnNS {pins : List (Addr × Obj)} {σ : L2.St} {H : Hp} {s : Shared} {Q : VK} {f : Addr} {fd : FuncData} {ps ks : List Str} {n : Nat} {gg : List Value → List Value → List Value} {gV : List V → List V → List V} {us ws : List Value} {vs zs : List V}
    (F : FnOk X.prog X.w X.K X.mg X.base CX k f fd ps sp) (hr : Room k X.A) (hb : KBn X.K fd ps n ks gg gV) (hx : PassesAt CX X σ (E σ))
    (I : Inv X pins σ H s) (r : Vals vs us) (rz : Vals zs ws) (l1 : vs.length = n) (l2 : zs.length = ks.length) (h : sp (gV vs zs) H Q (E σ)) : wpAny (model X.prog X.w) X.A (call (.ref f) us (ks.zip ws)) (EP X pins σ Q) X.xe s := by
  have r2 := hb.rel r rz
  refine wpAny_call (codeAny_mono (F.run X.A X.stack s H ⟨us, ks.zip ws⟩ (gg us ws) (gV vs zs) Q (E σ) hr I.env0 (hb.to s us ws I.kIn (r.length.symm.trans l1) (rz.length.symm.trans l2)) r2 h) fun r s' hq => ?_)
  cases r with
  | error e => exact hx pins H s e s' I hq
  | ok fl =>
    cases fl with
    | ret u => exact I.after hq
    | next => exact False.elim hq
    | brk => exact False.elim hq
    | cont => exact False.elim hq
/-- o.m(k = v) -/
def tMethK (C : Addr) (n : Nat) (sp : Sp) (E : L2.St → XK) (ta : TE) (t : TA) : TE := fun σ H Q => ta σ H fun x H1 => ∃ a dx vs, x = .ref a ∧ SlX.Slt H1 a C dx vs ∧ t σ H1 fun zs H2 => zs.length = n ∧ sp (.ref a :: zs) H2 Q (E σ)
theorem pe_methK {pl : Sem Bool} {fd : FuncData} {ps ks : List Str} {kws : List Keyword} {tk : TA} (he : PE X o ta) (c : SlX.SCls X.K C) (hm : Meth X.K C m g) (F : FnOk X.prog X.w X.K X.mg X.base CX k g fd ps sp) (hb : KBn X.K fd ps 1 ks (fun us ws => us ++ ws) (fun vs zs => vs ++ zs)) (hr : Room k X.A) (hx : ∀ σ, PassesAt CX X σ (E σ)) (hkw : PK X kws tk)
    (hall : (backToKw pos (keywordEach kws X.env)).all (·.1.isSome) = true := by rfl) (hks : (backToKw pos (keywordEach kws X.env)).filterMap (·.1) = ks := by rfl)
    (hpl : ((backTo pos (starEach [] X.env)).any (·.1) || (backToKw pos (keywordEach kws X.env)).any (·.1.isNone)) = false := by rfl)
    (ht : eval (.Call (.Attribute o m apos) [] kws pos) X.env = (do
      let ov ← eval o X.env
      standAt apos.atName
      let (f, first) ← holding [ov] (getMethod ov m pl)
      callWith pos f first (backTo pos (starEach [] X.env)) (backToKw pos (keywordEach kws X.env))) := by rfl) :
    PE X (.Call (.Attribute o m apos) [] kws pos) (tMethK C ks.length sp E ta tk) := by
  refine ⟨fun pins s σ H Q I h => ?_⟩
  refine PySem.W.methodCall_KW (pl := pl) (thn (he.run pins s σ H _ I h) fun u s1 ⟨x, H1, I1, rx, a, dx, vs, ex, hsl, q⟩ => ?_) ht
  subst ex
  obtain rfl : u = Value.ref a := rx
  refine SlX.getmethsl_ok I1 hsl c hm ?_
  refine PySem.W.callWith_KW0 (first := [.ref a]) (h₀ := X.base) I.ok.mod.kin hm.kp hall ?_ hpl
  refine thn (hkw.run pos pins s1 σ H1 _ I1 q) fun ws s2 ⟨zs, H2, I2, rz, l2, q2⟩ => ⟨I2.kIn, ?_⟩
  rw [hks]
  exact run_fnNS (us := [.ref a]) (vs := [.ref a]) F hr hb (hx σ) I2 (.cons rfl .nil) rz rfl l2 q2
/-- isinstance of a kept exception of any class -/
theorem call_isXs : CallR X (.builtin "isinstance") (fun xs H Q => ∃ D, ExcC X.K D ∧ rIsX X.K D xs H Q) := fun pins s σ H xs us Q I r ⟨D, C, h⟩ => call_isX C pins s σ H xs us Q I r h
def tXks (K : PySem.W.Frag) (f : Str) (te : TE) : TE := fun σ H Q => te σ H fun x H1 => ∃ (D a dd : Addr) (fs : List (Str × V)) (v : V), XfC K D ∧ PySem.W.findIn K (.ref D) f = some none ∧ x = .ref a ∧ H1 a = some (ExK (.ref D) (some dd) a) ∧ H1 dd = some (.xd fs) ∧ fs.lookup f = some v ∧ Q v H1
theorem pe_xks {e : Expr} {te : TE} {n : Str} (he : PE X e te) (hb : attributeBase e n X.env (eval e X.env) = eval e X.env := by rfl) : PE X (.Attribute e n pos) (tXks X.K n te) := by
  refine ⟨fun pins s σ H Q I h => ?_⟩
  refine attr_of hb (thn (he.run pins s σ H _ I h) fun u s1 hh => ?_)
  obtain ⟨x, H1, I1, rx, D, a, dd, fs, v, T, hno, rfl, ha, hd, l, q⟩ := hh
  obtain rfl : u = Value.ref a := rx
  obtain ⟨oe, od, J, _, hod⟩ := inst_exk I1 ha fun dx e => by cases e; exact ⟨fs, hd⟩
  have hx : ObjOk X.prog X.w H1 s1.heap dd (.xd fs) := I1.hok dd _ hd
  obtain ⟨mA, hns, hr⟩ := hx
  obtain ⟨o, ho, hl⟩ := lookIn_ns hns
  obtain ⟨o', eo, ho'⟩ := hod dd rfl
  rw [ho] at ho'
  cases ho'
  subst eo
  obtain ⟨u, hu, ru⟩ := RelO.some_of (v := v) (o := mA n) (by rw [← l]; exact hr n)
  exact HandSPX.exc_get I1.kIn J T.ga T.gg T.exC (PySem.W.findObj_own T.hdC hno rfl (by rw [hl, hu])) (handed_of ru) ⟨v, H1, I1.tok _, ru, q⟩
end
section
variable {K : PySem.W.Frag} {mg : Str → Option Value}
theorem Txt.excC (T : Txt K mg) {x : Str} {B : String} (h : (x, B) ∈ excs) : ExcC K (He.ga K x) := by
  obtain ⟨d1, d⟩ := He.ba (T.exc h)
  obtain ⟨d2, d⟩ := He.ba d
  obtain ⟨d3, d⟩ := He.ba d
  obtain ⟨d4, d⟩ := He.ba d
  obtain ⟨d5, d⟩ := He.ba d
  obtain ⟨d6, d⟩ := He.ba d
  exact ⟨He.eqO_ok d1, He.eqO_ok d2, of_decide_eq_true d3, d4, He.eqO_ok d5, cn_get, cn_tk, of_decide_eq_true d6⟩
theorem Txt.xfC (T : Txt K mg) {x : Str} {B : String} (h : (x, B) ∈ excs) : XfC K (He.ga K x) := by
  have c := T.excC h
  exact ⟨c.hg, c.hk, c.hs, c.hd⟩
theorem Txt.noF (T : Txt K mg) {x fld : Str} {B : String} (h : (x, fld, B) ∈ sups) : PySem.W.findIn K (.ref (He.ga K x)) fld = some none := by
  obtain ⟨c1, c⟩ := He.ba (T.sup h)
  obtain ⟨c2, c⟩ := He.ba c
  obtain ⟨c3, c⟩ := He.ba c
  obtain ⟨c4, c⟩ := He.ba c
  exact He.eqO_ok c4
theorem Txt.fiv (T : Txt K mg) {x y : Str} (hx : x ∈ five) (hy : y ∈ five) : PySem.W.exmOne K (.ref (He.ga K x)) (.ref (He.ga K y)) = some (x == y) ∧ PySem.W.kitOne K (.ref (He.ga K x)) (.ref (He.ga K y)) = some (x == y) := by
  have c : (five.all fun x => five.all fun y => exmB x y (x == y) K && kitB2 x y (x == y) K) = true := T.ex (f := fun K => five.all fun x => five.all fun y => exmB x y (x == y) K && kitB2 x y (x == y) K) (by simp [exs])
  have c2 := List.all_eq_true.mp (List.all_eq_true.mp c x hx) y hy
  obtain ⟨c3, c4⟩ := He.ba c2
  exact ⟨of_decide_eq_true c3, of_decide_eq_true c4⟩
def fiveV (K : PySem.W.Frag) : List Value := [.ref (He.ga K "NoBox"), .ref (He.ga K "IsOut"), .ref (He.ga K "NotOut"), .ref (He.ga K "Full"), .ref (He.ga K "NothingDone")]
theorem Txt.any5 (T : Txt K mg) {x : Str} (hx : x ∈ five) : PySem.W.exmAny K (.ref (He.ga K x)) (fiveV K) = some true := by
  have f1 := (T.fiv hx (y := "NoBox") (by decide +kernel)).1
  have f2 := (T.fiv hx (y := "IsOut") (by decide +kernel)).1
  have f3 := (T.fiv hx (y := "NotOut") (by decide +kernel)).1
  have f4 := (T.fiv hx (y := "Full") (by decide +kernel)).1
  have f5 := (T.fiv hx (y := "NothingDone") (by decide +kernel)).1
  unfold fiveV PySem.W.exmAny PySem.W.exmAny PySem.W.exmAny PySem.W.exmAny PySem.W.exmAny PySem.W.exmAny
  rw [f1, f2, f3, f4, f5]
  have h5 : (five.all fun x => ((x == ("NoBox" : Str)) || ((x == ("IsOut" : Str)) || ((x == ("NotOut" : Str)) || ((x == ("Full" : Str)) || ((x == ("NothingDone" : Str)) || false)))))) = true := by decide +kernel
  exact congrArg some (List.all_eq_true.mp h5 x hx)
end
theorem bt_RE : bootBuiltins "RuntimeError" = some (.type "RuntimeError") := by kernel_rfl
theorem bt_VE : bootBuiltins "ValueError" = some (.type "ValueError") := by kernel_rfl
theorem bt_LE : bootBuiltins "LookupError" = some (.type "LookupError") := by kernel_rfl
def refD : Ref → Str → PyData
  | .undo, _ => .tuple [.str "undo", .bool true, .none]
  | .box, x => .tuple [.str "box", .bool true, .str x]
  | .out, x => .tuple [.str "out", .bool true, .str x]
  | .in_, x => .tuple [.str "in", .bool true, .str x]
  | .full n, _ => .tuple [.str "full", .bool true, .int (n : Int)]
def deedsR (word x : Str) (deeds : List (Str × Str)) : List (Str × Str) := if word = "undo" then deeds.dropLast else deeds ++ [(word, x)]
def doneV (word : Str) (deeds : List (Str × Str)) : V := if word = "undo" then .non else .int (deeds.length + 1 : Nat)
def spDone (K : PySem.W.Frag) : Sp := fun vs H Q _ => ∃ p lo ld t cap outs deeds word x, vs = [.ref p, .str word, .str x] ∧ SAt K H p lo ld t cap outs deeds ∧ outs.length < 60 ∧ (word = "lock" ∨ word = "let" ∨ word = "undo") ∧
  (∀ r, deedR t cap outs word x = .inl r → ∀ H' v, Same H H' → Dp K H' v (refD r x) → Q v H') ∧
  (∀ os, deedR t cap outs word x = .inr os → ∀ H', Keep [lo, ld] H H' → SAt K H' p lo ld t cap os (deedsR word x deeds) → Q (doneV word deeds) H')
theorem deedR_undo {t : T} {cap : Int} {outs : List (List Str)} {x : Str} : deedR t cap outs "undo" x = if outs.length = 1 then .inl .undo else .inr outs.dropLast := by
  unfold deedR
  rw [if_pos rfl]
theorem deedR_box {t : T} {cap : Int} {outs : List (List Str)} {word x : Str} (h : word ≠ "undo") (hx : x ∉ t.leaves) : deedR t cap outs word x = .inl .box := by
  unfold deedR
  rw [if_neg h, if_pos hx]
theorem deedR_lock_out {t : T} {cap : Int} {outs : List (List Str)} {x : Str} (hx : x ∈ t.leaves) (ho : x ∈ lastO outs) : deedR t cap outs "lock" x = .inl .out := by
  unfold deedR
  rw [if_neg (by decide +kernel), if_neg (by simpa using hx)]
  have e : isOut (outs.getLastD []) x = true := isOut_true ho
  simp only [e]
  rw [if_pos (by decide +kernel)]
  simp
theorem deedR_lock {t : T} {cap : Int} {outs : List (List Str)} {x : Str} (hx : x ∈ t.leaves) (ho : x ∉ lastO outs) : deedR t cap outs "lock" x = if (cnt t (lockO outs x) : Int) > cap then .inl (.full (cnt t (lockO outs x))) else .inr (outs ++ [lockO outs x]) := by
  unfold deedR
  rw [if_neg (by decide +kernel), if_neg (by simpa using hx)]
  have e : isOut (outs.getLastD []) x = false := isOut_false ho
  simp only [e]
  rw [if_neg (by decide +kernel)]
  simp only [if_true]
  rfl
theorem deedR_let_in {t : T} {cap : Int} {outs : List (List Str)} {x : Str} (hx : x ∈ t.leaves) (ho : x ∉ lastO outs) : deedR t cap outs "let" x = .inl .in_ := by
  unfold deedR
  rw [if_neg (by decide +kernel), if_neg (by simpa using hx)]
  have e : isOut (outs.getLastD []) x = false := isOut_false ho
  simp only [e]
  rw [if_pos (by decide +kernel), if_neg (by decide +kernel)]
theorem deedR_let {t : T} {cap : Int} {outs : List (List Str)} {x : Str} (hx : x ∈ t.leaves) (ho : x ∈ lastO outs) : deedR t cap outs "let" x = if (cnt t (letO outs x) : Int) > cap then .inl (.full (cnt t (letO outs x))) else .inr (outs ++ [letO outs x]) := by
  unfold deedR
  rw [if_neg (by decide +kernel), if_neg (by simpa using hx)]
  have e : isOut (outs.getLastD []) x = true := isOut_true ho
  simp only [e]
  rw [if_neg (by decide +kernel)]
  simp only [eq_false (by decide +kernel : ¬ (("let" : Str) = "lock")), if_false]
  rfl
section
variable {w : World} {K : PySem.W.Frag} {mg : Str → Option Value} {base : Heap}
def Kept (K : PySem.W.Frag) (H : Hp) (a : Addr) (x : Str) : Ref → Prop
  | .undo => H a = some (ExK (.ref (He.ga K "NothingDone")) none a)
  | .box => ∃ dd, H a = some (ExK (.ref (He.ga K "NoBox")) (some dd) a) ∧ H dd = some (.xd [("box", .str x)])
  | .out => ∃ dd, H a = some (ExK (.ref (He.ga K "IsOut")) (some dd) a) ∧ H dd = some (.xd [("box", .str x)])
  | .in_ => ∃ dd, H a = some (ExK (.ref (He.ga K "NotOut")) (some dd) a) ∧ H dd = some (.xd [("box", .str x)])
  | .full n => ∃ dd, H a = some (ExK (.ref (He.ga K "Full")) (some dd) a) ∧ H dd = some (.xd [("number", .int (n : Int))])
theorem done_tail (T : Txt K mg) (cdv : Value) (A : Around) (outer : List Env) (s : Shared) (H0 : Hp) (E : XK) : ∃ u : TS, PSs (cxOf (CXE w) prg w K mg base N_L_done d_L_done.qual d_L_done.scope (He.fAd K d_L_done.at_) cdv A outer s H0 E).nox (d_L_done.body.drop 2) u ∧
    (∀ D H p word x e v, D.rt v H → u D [p, word, x, some .non, some v, e] H) ∧
    (∀ D H p word x f a x' r, Kept K H a x' r → (∀ H' q, Same H H' → Dp K H' q (refD r x') → D.rt q H') → u D [p, word, x, some (.ref a), f, none] H) := by
  refine ⟨_, pss_cons (ps_if (pt_cmpR op_isN (pv 3) pe_non (nomark _)) (pss_one (ps_ret (pv 4))) pss_nil)
        (pss_cons (ps_if (pt_val (pe_callB call_isXs (by rfl) T.free boot_isi (pa_cons (pv 3) (pa_cons (pe_glob (v := .ref (He.ga K "NothingDone")) (by rfl) T.glo rfl) pa_nil))))
          (pss_one (ps_ret (pe_tup (pa_cons pe_str (pa_cons (pe_callB call_isXs (by rfl) T.free boot_isi (pa_cons (pv 3) (pa_cons (pe_bltn (v := .ty "RuntimeError") (by rfl) T.free bt_RE rfl) pa_nil))) (pa_cons pe_non pa_nil)))))) pss_nil)
        (pss_cons (ps_if (pt_val (pe_callB call_isXs (by rfl) T.free boot_isi (pa_cons (pv 3) (pa_cons (pe_glob (v := .ref (He.ga K "Full")) (by rfl) T.glo rfl) pa_nil))))
          (pss_one (ps_ret (pe_tup (pa_cons pe_str (pa_cons (pe_callB call_isXs (by rfl) T.free boot_isi (pa_cons (pv 3) (pa_cons (pe_bltn (v := .ty "ValueError") (by rfl) T.free bt_VE rfl) pa_nil))) (pa_cons (pe_xks (pv 3)) pa_nil)))))) pss_nil)
        (pss_cons (ps_if (pt_val (pe_callB call_isXs (by rfl) T.free boot_isi (pa_cons (pv 3) (pa_cons (pe_glob (v := .ref (He.ga K "NoBox")) (by rfl) T.glo rfl) pa_nil))))
          (pss_one (ps_ret (pe_tup (pa_cons pe_str (pa_cons (pe_callB call_isXs (by rfl) T.free boot_isi (pa_cons (pv 3) (pa_cons (pe_bltn (v := .ty "LookupError") (by rfl) T.free bt_LE rfl) pa_nil))) (pa_cons (pe_xks (pv 3)) pa_nil)))))) pss_nil)
        (pss_one (ps_ret (pe_tup (pa_cons (pe_ifExp (pt_val (pe_callB call_isXs (by rfl) T.free boot_isi (pa_cons (pv 3) (pa_cons (pe_glob (v := .ref (He.ga K "IsOut")) (by rfl) T.glo rfl) pa_nil)))) pe_str pe_str)
          (pa_cons (pe_callB call_isXs (by rfl) T.free boot_isi (pa_cons (pv 3) (pa_cons (pe_bltn (v := .ty "ValueError") (by rfl) T.free bt_VE rfl) pa_nil))) (pa_cons (pe_xks (pv 3)) pa_nil))))))))), ?_, ?_⟩
  · intro D H p word x e v h
    refine ⟨_, rfl, rfl, _, rfl, ?_⟩
    rw [decide_eq_true rfl]
    exact iteT ⟨_, rfl, h⟩
  · intro D H p word x f a x' r hk hQ
    have m1 : ("NothingDone" : Str) ∈ five := by decide +kernel
    have m2 : ("Full" : Str) ∈ five := by decide +kernel
    have m3 : ("NoBox" : Str) ∈ five := by decide +kernel
    have m4 : ("IsOut" : Str) ∈ five := by decide +kernel
    have m5 : ("NotOut" : Str) ∈ five := by decide +kernel
    refine ⟨_, rfl, rfl, _, rfl, ?_⟩
    rw [decide_eq_false (fun z => nomatch z)]
    refine iteF ?_
    cases r with
    | undo =>
      have hk : H a = some (ExK (.ref (He.ga K "NothingDone")) none a) := hk
      have C := T.excC (x := "NothingDone") (B := "RuntimeError") (by decide +kernel)
      refine ⟨_, rfl, _, C, a, none, _, _, true, rfl, hk, (fun _ z => nomatch z), .own _, (T.fiv m1 m1).2, _, rfl, iteT ?_⟩
      refine ⟨_, rfl, _, C, a, none, _, _, true, rfl, hk, (fun _ z => nomatch z), .ty _, T.kt (x := "NothingDone") (B := "RuntimeError") (by decide +kernel), ?_⟩
      exact ⟨by show 3 ≤ sizeLine; decide, fun q nq => hQ _ _ (same_new nq) (.tupM upd_same (.cons (.str _) (.cons (.bl _) (.cons .non .nil))))⟩
    | full n =>
      obtain ⟨dd, hk, hd⟩ := hk
      have C := T.excC (x := "Full") (B := "ValueError") (by decide +kernel)
      have hdd : ∀ dx, some dd = some dx → ∃ fs, H dx = some (.xd fs) := fun dx e => by cases e; exact ⟨_, hd⟩
      refine ⟨_, rfl, _, C, a, some dd, _, _, false, rfl, hk, hdd, .own _, (T.fiv m2 m1).2, _, rfl, iteF ?_⟩
      refine ⟨_, rfl, _, C, a, some dd, _, _, true, rfl, hk, hdd, .own _, (T.fiv m2 m2).2, _, rfl, iteT ?_⟩
      refine ⟨_, rfl, _, C, a, some dd, _, _, true, rfl, hk, hdd, .ty _, T.kt (x := "Full") (B := "ValueError") (by decide +kernel), ?_⟩
      refine ⟨_, rfl, _, a, dd, _, _, T.xfC (x := "Full") (B := "ValueError") (by decide +kernel), T.noF (x := "Full") (fld := "number") (B := "ValueError") (by decide +kernel), rfl, hk, hd, rfl, ?_⟩
      exact ⟨by show 3 ≤ sizeLine; decide, fun q nq => hQ _ _ (same_new nq) (.tupM upd_same (.cons (.str _) (.cons (.bl _) (.cons (.int _) .nil))))⟩
    | box =>
      obtain ⟨dd, hk, hd⟩ := hk
      have C := T.excC (x := "NoBox") (B := "LookupError") (by decide +kernel)
      have hdd : ∀ dx, some dd = some dx → ∃ fs, H dx = some (.xd fs) := fun dx e => by cases e; exact ⟨_, hd⟩
      refine ⟨_, rfl, _, C, a, some dd, _, _, false, rfl, hk, hdd, .own _, (T.fiv m3 m1).2, _, rfl, iteF ?_⟩
      refine ⟨_, rfl, _, C, a, some dd, _, _, false, rfl, hk, hdd, .own _, (T.fiv m3 m2).2, _, rfl, iteF ?_⟩
      refine ⟨_, rfl, _, C, a, some dd, _, _, true, rfl, hk, hdd, .own _, (T.fiv m3 m3).2, _, rfl, iteT ?_⟩
      refine ⟨_, rfl, _, C, a, some dd, _, _, true, rfl, hk, hdd, .ty _, T.kt (x := "NoBox") (B := "LookupError") (by decide +kernel), ?_⟩
      refine ⟨_, rfl, _, a, dd, _, _, T.xfC (x := "NoBox") (B := "LookupError") (by decide +kernel), T.noF (x := "NoBox") (fld := "box") (B := "LookupError") (by decide +kernel), rfl, hk, hd, rfl, ?_⟩
      exact ⟨by show 3 ≤ sizeLine; decide, fun q nq => hQ _ _ (same_new nq) (.tupM upd_same (.cons (.str _) (.cons (.bl _) (.cons (.str _) .nil))))⟩
    | out =>
      obtain ⟨dd, hk, hd⟩ := hk
      have C := T.excC (x := "IsOut") (B := "ValueError") (by decide +kernel)
      have hdd : ∀ dx, some dd = some dx → ∃ fs, H dx = some (.xd fs) := fun dx e => by cases e; exact ⟨_, hd⟩
      refine ⟨_, rfl, _, C, a, some dd, _, _, false, rfl, hk, hdd, .own _, (T.fiv m4 m1).2, _, rfl, iteF ?_⟩
      refine ⟨_, rfl, _, C, a, some dd, _, _, false, rfl, hk, hdd, .own _, (T.fiv m4 m2).2, _, rfl, iteF ?_⟩
      refine ⟨_, rfl, _, C, a, some dd, _, _, false, rfl, hk, hdd, .own _, (T.fiv m4 m3).2, _, rfl, iteF ?_⟩
      refine ⟨_, rfl, _, C, a, some dd, _, _, true, rfl, hk, hdd, .own _, (T.fiv m4 m4).2, _, rfl, iteT ?_⟩
      refine ⟨_, rfl, _, C, a, some dd, _, _, true, rfl, hk, hdd, .ty _, T.kt (x := "IsOut") (B := "ValueError") (by decide +kernel), ?_⟩
      refine ⟨_, rfl, _, a, dd, _, _, T.xfC (x := "IsOut") (B := "ValueError") (by decide +kernel), T.noF (x := "IsOut") (fld := "box") (B := "ValueError") (by decide +kernel), rfl, hk, hd, rfl, ?_⟩
      exact ⟨by show 3 ≤ sizeLine; decide, fun q nq => hQ _ _ (same_new nq) (.tupM upd_same (.cons (.str _) (.cons (.bl _) (.cons (.str _) .nil))))⟩
    | in_ =>
      obtain ⟨dd, hk, hd⟩ := hk
      have C := T.excC (x := "NotOut") (B := "ValueError") (by decide +kernel)
      have hdd : ∀ dx, some dd = some dx → ∃ fs, H dx = some (.xd fs) := fun dx e => by cases e; exact ⟨_, hd⟩
      refine ⟨_, rfl, _, C, a, some dd, _, _, false, rfl, hk, hdd, .own _, (T.fiv m5 m1).2, _, rfl, iteF ?_⟩
      refine ⟨_, rfl, _, C, a, some dd, _, _, false, rfl, hk, hdd, .own _, (T.fiv m5 m2).2, _, rfl, iteF ?_⟩
      refine ⟨_, rfl, _, C, a, some dd, _, _, false, rfl, hk, hdd, .own _, (T.fiv m5 m3).2, _, rfl, iteF ?_⟩
      refine ⟨_, rfl, _, C, a, some dd, _, _, false, rfl, hk, hdd, .own _, (T.fiv m5 m4).2, _, rfl, iteF ?_⟩
      refine ⟨_, rfl, _, C, a, some dd, _, _, true, rfl, hk, hdd, .ty _, T.kt (x := "NotOut") (B := "ValueError") (by decide +kernel), ?_⟩
      refine ⟨_, rfl, _, a, dd, _, _, T.xfC (x := "NotOut") (B := "ValueError") (by decide +kernel), T.noF (x := "NotOut") (fld := "box") (B := "ValueError") (by decide +kernel), rfl, hk, hd, rfl, ?_⟩
      exact ⟨by show 3 ≤ sizeLine; decide, fun q nq => hQ _ _ (same_new nq) (.tupM upd_same (.cons (.str _) (.cons (.bl _) (.cons (.str _) .nil))))⟩
theorem ok_L_done (T : Txt K mg) : FnX w K mg base (CXE w) 31 ("_law_done", none) (spDone K) := by
  obtain ⟨fd1, FL, _, bL⟩ := ok_S_lockK (w := w) (base := base) T
  obtain ⟨fd2, FT, _, bT⟩ := ok_S_letK (w := w) (base := base) T
  have FU := ok_S_undo (w := w) (base := base) T
  refine fnr (ps := ["_law_host", "_law_word", "_law_name_so"]) (T.fn 45) sc_L_done ?ln ?bd (fun _ _ _ _ _ _ us hl => match us, hl with | [_, _, _], _ => rfl)
  case ln =>
    rintro _ _ _ _ ⟨p, lo, ld, t, cap, outs, deeds, word, x, rfl, _⟩
    rfl
  case bd =>
    intro cdv A outer s H vs Q E hr h
    obtain ⟨u, hu, key1, key2⟩ := done_tail (w := w) (base := base) T cdv A outer s H E
    apply bodyN
    case h =>
      apply pss_cons
      · exact ps_asg (pe_tup (pa_cons pe_non (pa_cons pe_non pa_nil))) (pg_tup (n := 2) rfl (pgs_cons (pg_name (i := 3) sc_L_done.nd rfl (.inl rfl)) (pgs_cons (pg_name (i := 4) sc_L_done.nd rfl (.inl rfl)) pgs_nil)))
      apply pss_cons
      · apply ps_try_keep (n := "error") (i := 5) (Tm := fun cls => PySem.W.exmAny K cls (fiveV K) = some true) (ts := tAsg (tVar 5) (gName 3)) rfl rfl rfl sc_L_done.nd rfl rfl (test_five (by rfl) T.glo (by rfl) T.glo (by rfl) T.glo (by rfl) T.glo (by rfl) T.glo)
        · intro W pn xe tk po
          exact pss_one (ps_if (pt_cmpR op_eq (pv 1) pe_str (nomark _))
            (pss_one (ps_set (i := 4) sc_L_done.nd rfl (.inl rfl) (pe_methK (ks := ["box"]) (pv 0) (T.scls (x := "Sender")) (T.meth (x := "Sender") (m := "lock")) FL bL (hr.mono (by decide)) (fun σ => passAt tk σ) (pk_cons (pv 2) pk_nil))))
            (pss_one (ps_if (pt_cmpR op_eq (pv 1) pe_str (nomark _))
              (pss_one (ps_set (i := 4) sc_L_done.nd rfl (.inl rfl) (pe_methK (ks := ["box"]) (pv 0) (T.scls (x := "Sender")) (T.meth (x := "Sender") (m := "let")) FT bT (hr.mono (by decide)) (fun σ => passAt tk σ) (pk_cons (pv 2) pk_nil))))
              (pss_one (ps_set (i := 4) sc_L_done.nd rfl (.inl rfl) (pe_methS0 (pv 0) (T.scls (x := "Sender")) (T.meth (x := "Sender") (m := "undo")) FU (hr.mono (by decide)) (fun σ => passAt tk σ)))))))
        · intro a pn
          exact pss_one (ps_set (i := 3) sc_L_done.nd rfl (.inl rfl) (pv 5))
      exact hu
    case r =>
      obtain ⟨p, lo, ld, t, cap, outs, deeds, word, x, rfl, hs, hl, hw, hR, hO⟩ := h
      refine ⟨by show 2 ≤ sizeLine; decide, fun q nq => ⟨q, _, rfl, .of upd_same, rfl, _, _, rfl, _, _, rfl, rfl, ?_⟩⟩
      have s1 := same_new (o := .tup [V.non, V.non]) nq
      generalize upd H q (.tup [V.non, V.non]) = H1 at s1 ⊢
      have hs1 := hs.same s1
      have ⟨dx, tv, vs, ws, h1, h2, h3, h4, h5, h6, h7, h8⟩ := id hs1
      have toK : ∀ {H' : Hp}, Keep [lo, ld] H1 H' → Keep [lo, ld] H H' := fun k => (Keep.of s1 _).trans k
      rcases hw with rfl | rfl | rfl
      · refine ⟨_, rfl, rfl, _, rfl, ?_⟩
        rw [decide_eq_true rfl]
        refine iteT ⟨_, rfl, p, dx, _, rfl, h1, _, rfl, rfl, p, lo, ld, t, cap, outs, deeds, x, rfl, hs1, hl, fun hx => ?_, fun hx => ⟨fun ho => ?_, fun ho => ⟨fun hc => ?_, fun hc H' k' hs' => ?_⟩⟩⟩
        · exact fun H' d sH nd ed => ⟨T.any5 (x := "NoBox") (by decide +kernel), fun a na => ⟨_, rfl, key2 _ _ _ _ _ _ a x (.box) ⟨d, upd_same, by rw [upd_ne (ne_of_none ed na)]; exact ed⟩ fun H'' q s'' dq => hR _ (deedR_box (by decide +kernel) hx) H'' q (((s1.trans sH).trans (same_new na)).trans s'') dq⟩⟩
        · exact fun H' d sH nd ed => ⟨T.any5 (x := "IsOut") (by decide +kernel), fun a na => ⟨_, rfl, key2 _ _ _ _ _ _ a x (.out) ⟨d, upd_same, by rw [upd_ne (ne_of_none ed na)]; exact ed⟩ fun H'' q s'' dq => hR _ (deedR_lock_out hx ho) H'' q (((s1.trans sH).trans (same_new na)).trans s'') dq⟩⟩
        · exact fun H' d sH nd ed => ⟨T.any5 (x := "Full") (by decide +kernel), fun a na => ⟨_, rfl, key2 _ _ _ _ _ _ a x (.full (cnt t (lockO outs x))) ⟨d, upd_same, by rw [upd_ne (ne_of_none ed na)]; exact ed⟩ fun H'' q s'' dq => hR _ (by rw [deedR_lock hx ho, if_pos hc]) H'' q (((s1.trans sH).trans (same_new na)).trans s'') dq⟩⟩
        · refine key1 _ _ _ _ _ _ _ (hO _ (by rw [deedR_lock hx ho, if_neg hc]) H' (toK k') ?_)
          exact hs'
      · refine ⟨_, rfl, rfl, _, rfl, ?_⟩
        rw [decide_eq_false (by decide +kernel)]
        refine iteF ⟨_, rfl, rfl, _, rfl, ?_⟩
        rw [decide_eq_true rfl]
        refine iteT ⟨_, rfl, p, dx, _, rfl, h1, _, rfl, rfl, p, lo, ld, t, cap, outs, deeds, x, rfl, hs1, hl, fun hx => ?_, fun hx => ⟨fun ho => ?_, fun ho => ⟨fun hc => ?_, fun hc H' k' hs' => ?_⟩⟩⟩
        · exact fun H' d sH nd ed => ⟨T.any5 (x := "NoBox") (by decide +kernel), fun a na => ⟨_, rfl, key2 _ _ _ _ _ _ a x (.box) ⟨d, upd_same, by rw [upd_ne (ne_of_none ed na)]; exact ed⟩ fun H'' q s'' dq => hR _ (deedR_box (by decide +kernel) hx) H'' q (((s1.trans sH).trans (same_new na)).trans s'') dq⟩⟩
        · exact fun H' d sH nd ed => ⟨T.any5 (x := "NotOut") (by decide +kernel), fun a na => ⟨_, rfl, key2 _ _ _ _ _ _ a x (.in_) ⟨d, upd_same, by rw [upd_ne (ne_of_none ed na)]; exact ed⟩ fun H'' q s'' dq => hR _ (deedR_let_in hx ho) H'' q (((s1.trans sH).trans (same_new na)).trans s'') dq⟩⟩
        · exact fun H' d sH nd ed => ⟨T.any5 (x := "Full") (by decide +kernel), fun a na => ⟨_, rfl, key2 _ _ _ _ _ _ a x (.full (cnt t (letO outs x))) ⟨d, upd_same, by rw [upd_ne (ne_of_none ed na)]; exact ed⟩ fun H'' q s'' dq => hR _ (by rw [deedR_let hx ho, if_pos hc]) H'' q (((s1.trans sH).trans (same_new na)).trans s'') dq⟩⟩
        · refine key1 _ _ _ _ _ _ _ (hO _ (by rw [deedR_let hx ho, if_neg hc]) H' (toK k') ?_)
          exact hs'
      · refine ⟨_, rfl, rfl, _, rfl, ?_⟩
        rw [decide_eq_false (by decide +kernel)]
        refine iteF ⟨_, rfl, rfl, _, rfl, ?_⟩
        rw [decide_eq_false (by decide +kernel)]
        refine iteF ⟨_, rfl, p, dx, _, rfl, h1, p, lo, ld, t, cap, outs, deeds, rfl, hs1, fun hc H' sH => ?_, fun hc H' k' hs' => ?_⟩
        · exact ⟨T.any5 (x := "NothingDone") (by decide +kernel), fun a na => ⟨_, rfl, key2 _ _ _ _ _ _ a x .undo upd_same fun H'' q s'' dq => hR _ (by rw [deedR_undo, if_pos hc]) H'' q (((s1.trans sH).trans (same_new na)).trans s'') dq⟩⟩
        · refine key1 _ _ _ _ _ _ _ (hO _ (by rw [deedR_undo, if_neg hc]) H' (toK k') ?_)
          exact hs'
end
end K90
end

section
set_option Elab.async false
set_option linter.all false
set_option maxRecDepth 100000
set_option maxHeartbeats 4000000
/-! the law's no_key, no_box -/
namespace K90
open PySem PySem.Spec PyProof.Rows L2
def spNoKey (K : PySem.W.Frag) : Sp := fun vs H Q _ => ∃ p lo ld t cap outs deeds n, vs = [.ref p, .int n] ∧ SAt K H p lo ld t cap outs deeds ∧ ¬ (0 ≤ n ∧ n < (outs.length : Int)) ∧ ∀ H', Same H H' → Q (.bl true) H'
def spNoBoxL (K : PySem.W.Frag) : Sp := fun vs H Q _ => ∃ p lo ld t cap outs deeds, vs = [.ref p] ∧ SAt K H p lo ld t cap outs deeds ∧ ("nobody" : Str) ∉ t.leaves ∧ ∀ H', Same H H' → Q (.bl true) H'
section
variable {w : World} {K : PySem.W.Frag} {mg : Str → Option Value} {base : Heap}
theorem ok_L_no_key (T : Txt K mg) : FnX w K mg base (CXE w) 30 ("_law_no_key", none) (spNoKey K) := by
  have FW := ok_S_who (w := w) (base := base) T
  have hN : PySem.W.exmOne K (.ref (He.ga K "NoKey")) (.ref (He.ga K "NoKey")) = some true := of_decide_eq_true (T.ex (f := exmB "NoKey" "NoKey" true) (by simp [exs]))
  refine fnr (ps := ["_law_host", "_law_number_so"]) (T.fn 48) sc_L_no_key ?ln ?bd (fun _ _ _ _ _ _ us hl => match us, hl with | [_, _], _ => rfl)
  case ln =>
    rintro _ _ _ _ ⟨p, lo, ld, t, cap, outs, deeds, n, rfl, _⟩
    rfl
  case bd =>
    intro cdv A outer s H vs Q E hr h
    apply bodyN
    case h =>
      apply pss_cons
      · exact ps_set (i := 2) sc_L_no_key.nd rfl (.inl rfl) pe_non
      apply pss_cons
      · apply ps_try_keep (n := "error") (i := 3) (Tm := fun cls => PySem.W.exmOne K cls (.ref (He.ga K "NoKey")) = some true) (ts := tAsg (tVar 3) (gName 2)) rfl rfl rfl sc_L_no_key.nd rfl rfl (test_one (by rfl) T.glo)
        · intro W pn xe tk po
          exact pss_one (ps_expr (pe_methS (pv 0) (T.scls (x := "Sender")) (T.meth (x := "Sender") (m := "who")) FW (hr.mono (by decide)) (fun σ => passAt tk σ) (pa_cons (pv 1) pa_nil)))
        · intro a pn
          exact pss_one (ps_set (i := 2) sc_L_no_key.nd rfl (.inl rfl) (pv 3))
      exact pss_one (ps_ret (pe_and (pe_cmpR op_notN (pv 2) pe_non (nomark _)) (pe_and (pe_callB call_isXs (by rfl) T.free boot_isi (pa_cons (pv 2) (pa_cons (pe_bltn (v := .ty "LookupError") (by rfl) T.free bt_LE rfl) pa_nil))) (pe_one (pe_cmpR op_eq (pe_xks (pv 2)) (pv 1) (nomark _))))))
    case r =>
      obtain ⟨p, lo, ld, t, cap, outs, deeds, n, rfl, hs, hn, hQ⟩ := h
      have ⟨dx, tv, vs, ws, h1, h2, h3, h4, h5, h6, h7, h8⟩ := id hs
      refine ⟨_, rfl, p, dx, _, rfl, h1, _, rfl, p, lo, ld, t, cap, outs, deeds, n, rfl, hs, fun _ H' d sH nd ed => ⟨hN, fun a na => ⟨_, rfl, ?_⟩⟩, fun k e hk => absurd ⟨by omega, by omega⟩ hn⟩
      have s2 : Same H (upd H' a (ExK (.ref (He.ga K "NoKey")) (some d) a)) := sH.trans (same_new na)
      have ea : upd H' a (ExK (.ref (He.ga K "NoKey")) (some d) a) a = some (ExK (.ref (He.ga K "NoKey")) (some d) a) := upd_same
      have ed2 : upd H' a (ExK (.ref (He.ga K "NoKey")) (some d) a) d = some (.xd [("number", .int n)]) := by rw [upd_ne (ne_of_none ed na)]; exact ed
      generalize upd H' a (ExK (.ref (He.ga K "NoKey")) (some d) a) = H2 at s2 ea ed2 ⊢
      refine ⟨_, rfl, rfl, _, rfl, ?_⟩
      rw [decide_eq_false (fun z => nomatch z)]
      refine iteT ⟨_, rfl, _, T.excC (x := "NoKey") (B := "LookupError") (by decide +kernel), a, some d, _, _, true, rfl, ea, (fun dx e => by cases e; exact ⟨_, ed2⟩), .ty _, T.kt (x := "NoKey") (B := "LookupError") (by decide +kernel), _, rfl, iteT ?_⟩
      refine ⟨_, rfl, _, a, d, _, _, T.xfC (x := "NoKey") (B := "LookupError") (by decide +kernel), T.noF (x := "NoKey") (fld := "number") (B := "LookupError") (by decide +kernel), rfl, ea, ed2, rfl, _, rfl, rfl, ?_⟩
      rw [decide_eq_true rfl]
      exact hQ H2 s2
theorem ok_L_no_box (T : Txt K mg) : FnX w K mg base (CXE w) 30 ("_law_no_box", none) (spNoBoxL K) := by
  have FK := ok_S_keys (w := w) (base := base) T
  have hN : PySem.W.exmOne K (.ref (He.ga K "NoBox")) (.ref (He.ga K "NoBox")) = some true := (T.fiv (x := "NoBox") (y := "NoBox") (by decide +kernel) (by decide +kernel)).1
  refine fnr (ps := ["_law_host"]) (T.fn 49) sc_L_no_box ?ln ?bd (fun _ _ _ _ _ _ us hl => match us, hl with | [_], _ => rfl)
  case ln =>
    rintro _ _ _ _ ⟨p, lo, ld, t, cap, outs, deeds, rfl, _⟩
    rfl
  case bd =>
    intro cdv A outer s H vs Q E hr h
    apply bodyN
    case h =>
      apply pss_cons
      · exact ps_set (i := 1) sc_L_no_box.nd rfl (.inl rfl) pe_non
      apply pss_cons
      · apply ps_try_keep (n := "error") (i := 2) (Tm := fun cls => PySem.W.exmOne K cls (.ref (He.ga K "NoBox")) = some true) (ts := tAsg (tVar 2) (gName 1)) rfl rfl rfl sc_L_no_box.nd rfl rfl (test_one (by rfl) T.glo)
        · intro W pn xe tk po
          exact pss_one (ps_expr (pe_methS (pv 0) (T.scls (x := "Sender")) (T.meth (x := "Sender") (m := "keys")) FK (hr.mono (by decide)) (fun σ => passAt tk σ) (pa_cons pe_str pa_nil)))
        · intro a pn
          exact pss_one (ps_set (i := 1) sc_L_no_box.nd rfl (.inl rfl) (pv 2))
      exact pss_one (ps_ret (pe_and (pe_cmpR op_notN (pv 1) pe_non (nomark _)) (pe_one (pe_cmpR op_eq (pe_xks (pv 1)) pe_str (nomark _)))))
    case r =>
      obtain ⟨p, lo, ld, t, cap, outs, deeds, rfl, hs, hn, hQ⟩ := h
      have ⟨dx, tv, vs, ws, h1, h2, h3, h4, h5, h6, h7, h8⟩ := id hs
      refine ⟨_, rfl, p, dx, _, rfl, h1, p, lo, ld, t, cap, outs, deeds, "nobody", rfl, hs, fun _ H' d sH nd ed => ⟨hN, fun a na => ⟨_, rfl, ?_⟩⟩, fun z => absurd z hn⟩
      have s2 : Same H (upd H' a (ExK (.ref (He.ga K "NoBox")) (some d) a)) := sH.trans (same_new na)
      have ea : upd H' a (ExK (.ref (He.ga K "NoBox")) (some d) a) a = some (ExK (.ref (He.ga K "NoBox")) (some d) a) := upd_same
      have ed2 : upd H' a (ExK (.ref (He.ga K "NoBox")) (some d) a) d = some (.xd [("box", .str "nobody")]) := by rw [upd_ne (ne_of_none ed na)]; exact ed
      generalize upd H' a (ExK (.ref (He.ga K "NoBox")) (some d) a) = H2 at s2 ea ed2 ⊢
      refine ⟨_, rfl, rfl, _, rfl, ?_⟩
      rw [decide_eq_false (fun z => nomatch z)]
      refine iteT ?_
      refine ⟨_, rfl, _, a, d, _, _, T.xfC (x := "NoBox") (B := "LookupError") (by decide +kernel), T.noF (x := "NoBox") (fld := "box") (B := "LookupError") (by decide +kernel), rfl, ea, ed2, rfl, rfl, ?_⟩
      rw [decide_eq_true rfl]
      exact hQ H2 s2
end
end K90
end

section
set_option Elab.async false
set_option linter.all false
set_option maxRecDepth 100000
set_option maxHeartbeats 4000000
/-! the law's due_deed -/
namespace K90
open PySem PySem.Spec PyProof.Rows L2
theorem cut_butlast {xs : List V} : cutV xs none (some (-1)) = xs.dropLast := by
  unfold cutV
  rw [HT.sIx_none]
  have e : HT.sIx xs.length xs.length (some (-1)) = xs.length - 1 := by
    show ((-1 : Int) + (xs.length : Int)).toNat = xs.length - 1
    omega
  rw [e, List.drop_zero, Nat.sub_zero, List.dropLast_eq_take]
/-- the rows of who was out -/
def RowsAt (K : PySem.W.Frag) (H : Hp) (lr : Addr) (outs : List (List Str)) : Prop := ∃ rv, H lr = some (.lst rv) ∧ DpAll K H rv (outs.map outD)
theorem RowsAt.same {K : PySem.W.Frag} {H H' : Hp} {lr : Addr} {outs : List (List Str)} (s : Same H H') (h : RowsAt K H lr outs) : RowsAt K H' lr outs := by
  obtain ⟨rv, h1, h2⟩ := h
  exact ⟨rv, s _ _ h1, h2.same s⟩
theorem RowsAt.keep {K : PySem.W.Frag} {H H' : Hp} {l : List Addr} {lr : Addr} {outs : List (List Str)} (k : Keep l H H') (so : Soft H l) (n : lr ∉ l) (h : RowsAt K H lr outs) : RowsAt K H' lr outs := by
  obtain ⟨rv, h1, h2⟩ := h
  exact ⟨rv, k _ _ h1 n, h2.keep k so.noTup (noLs_outs outs)⟩
def spDue (K : PySem.W.Frag) : Sp := fun vs H Q _ => ∃ (vt : V) (cap : Int) (lr : Addr) (word x : Str) (t : T) (outs : List (List Str)), vs = [vt, .int cap, .ref lr, .str word, .str x] ∧ Dp K H vt t.data ∧ okT t ∧ RowsAt K H lr outs ∧ 0 < outs.length ∧ outs.length ≤ 60 ∧ (lastO outs).length ≤ 100 ∧ (lastO outs).Nodup ∧
  (word = "lock" ∨ word = "let" ∨ word = "undo") ∧
  (∀ r, deedR t cap outs word x = .inl r → ∀ (H' : Hp) (l : Addr) (v : V), Same H H' → H l = none → H' l = some (.lst [v]) → Dp K H' v (refD r x) → Q (.ref l) H') ∧
  (∀ os, deedR t cap outs word x = .inr os → ∀ (H' : Hp) (l lr' : Addr), Same H H' → H l = none → H lr' = none → H' l = some (.lst [if word = "undo" then .non else .int (outs.length : Nat), .ref lr']) → RowsAt K H' lr' os → Q (.ref l) H')
theorem last_split' {outs : List (List Str)} (h : 0 < outs.length) : ∃ l, outs = l ++ [lastO outs] := last_split (n := outs.length - 1) (by omega)
theorem RowsAt.last {K : PySem.W.Frag} {H : Hp} {rv : List V} {outs : List (List Str)} (h2 : DpAll K H rv (outs.map outD)) (hp : 0 < outs.length) : ∃ ws v, rv = ws ++ [v] ∧ Dp K H v (outD (lastO outs)) := by
  obtain ⟨l, e⟩ := last_split' hp
  rw [e, List.map_append] at h2
  obtain ⟨ws, v, ev, _, hv⟩ := dps_snoc h2
  exact ⟨ws, v, ev, hv⟩
section
variable {w : World} {K : PySem.W.Frag} {mg : Str → Option Value} {base : Heap}
theorem ok_L_due (T : Txt K mg) : FnX w K mg base CX0 27 ("_law_due_deed", none) (spDue K) := by
  have FL := ok_L_leaves (w := w) (base := base) T 20
  have FP := ok_L_put (w := w) (base := base) T
  have FH := ok_least_header (w := w) (base := base) T
  refine fnr (ps := ["_law_tale_here", "_law_cap_so", "_law_rows_so", "_law_word", "_law_name_so"]) (T.fn 46) sc_L_due_deed ?ln ?bd (fun _ _ _ _ _ _ us hl => match us, hl with | [_, _, _, _, _], _ => rfl)
  case ln =>
    rintro _ _ _ _ ⟨vt, cap, lr, word, x, t, outs, rfl, _⟩
    rfl
  case bd =>
    intro cdv A outer s H vs Q E hr h
    apply bodyN
    case h =>
      exact pss_cons (ps_set (i := 5) sc_L_due_deed.nd rfl (.inl rfl) (pe_ix ix_list (pv 2) (pe_un un_neg pe_int) (fun _ _ => rfl)))
        (pss_cons (ps_if (pt_cmpR op_eq (pv 3) pe_str (nomark _)) (pss_one (ps_ret (pe_ifExp (pt_cmpR op_eq (pe_callB call_len_seq (by rfl) T.free PySem.boot_len (pa_cons (pv 2) pa_nil)) pe_int (nomark _))
            (pe_lst (pa_cons (pe_tup (pa_cons pe_str (pa_cons pe_bl (pa_cons pe_non pa_nil)))) pa_nil)) (pe_lst (pa_cons pe_non (pa_cons (pe_slice sl_list (pv 2) po_none (po_some (pe_un un_neg pe_int))) pa_nil)))))) pss_nil)
        (pss_cons (ps_if (pt_cmpR op_notIn_seq (pv 4) (pe_cR FL (hr.mono (by decide)) (by rfl) T.glo (T.kp (d := d_L_leaves) 42) pass0 (pa_cons (pv 0) pa_nil)) (by rfl)) (pss_one (ps_ret (pe_lst (pa_cons (pe_tup (pa_cons pe_str (pa_cons pe_bl (pa_cons (pv 4) pa_nil)))) pa_nil)))) pss_nil)
        (pss_cons (ps_if (pt_cmpR op_ne (pe_cmpR op_in_seq (pv 4) (pv 5) (by rfl)) (pe_cmpR op_eq (pv 3) pe_str (nomark _)) (nomark _))
            (pss_one (ps_ret (pe_lst (pa_cons (pe_tup (pa_cons (pe_ifExp (pt_cmpR op_eq (pv 3) pe_str (nomark _)) pe_str pe_str) (pa_cons pe_bl (pa_cons (pv 4) pa_nil)))) pa_nil)))) pss_nil)
        (pss_cons (ps_set (i := 6) sc_L_due_deed.nd rfl (.inl rfl) (pe_ifExp (pt_cmpR op_eq (pv 3) pe_str (nomark _)) (pe_cR FP (hr.mono (by decide)) (by rfl) T.glo (T.kp (d := d_L_put) 44) pass0 (pa_cons (pv 5) (pa_cons (pe_lst (pa_cons (pv 4) pa_nil)) pa_nil)))
            (pe_callTy call_tuple_of (by rfl) T.free boot_tuple (pa_cons (pe_lcR (own := [("_law_own", 8)]) (g := gName 8) (by rfl) sc_L_due_deed.nd (pi_seq (pv 5)) (blkOk_by (own := [("_law_own", 8)]) (N := N_L_due_deed) (sc := defScope s_L_due_deed) (by decide +kernel))
              (fun _ _ _ _ _ => pg_name (i := 8) sc_L_due_deed.nd rfl (.inl rfl)) (fun _ _ _ _ _ => pts_one (pt_cmpR op_ne (pv 8) (pv 4) (by rfl))) (fun _ _ _ _ _ => pv 8)) pa_nil))))
        (pss_cons (ps_set (i := 7) sc_L_due_deed.nd rfl (.inl rfl) (pe_callB call_len_seq (by rfl) T.free PySem.boot_len (pa_cons (pe_cR FH hr (by rfl) T.glo (T.kp (d := d_least_header) 16) pass0 (pa_cons (pv 0) (pa_cons (pv 6) pa_nil))) pa_nil)))
        (pss_one (ps_ret (pe_ifExp (pt_cmpR op_gt (pv 7) (pv 1) (nomark _)) (pe_lst (pa_cons (pe_tup (pa_cons pe_str (pa_cons pe_bl (pa_cons (pv 7) pa_nil)))) pa_nil))
          (pe_lst (pa_cons (pe_callB call_len_seq (by rfl) T.free PySem.boot_len (pa_cons (pv 2) pa_nil)) (pa_cons (pe_op op_cat (pv 2) (pe_lst (pa_cons (pv 6) pa_nil))) pa_nil)))))))))))
    case r =>
      obtain ⟨vt, cap, lr, word, x, t, outs, rfl, ht, ok, hrw, hp, h60, hlen, hnd, hw, hR, hO⟩ := h
      obtain ⟨rv, er, hrv⟩ := id hrw
      obtain ⟨ws, v, ev, hv⟩ := RowsAt.last hrv hp
      obtain ⟨ob, rfl, hob⟩ := outs_tup hv
      have hlv := hrv.len
      rw [List.length_map] at hlv
      refine ⟨_, rfl, _, rfl, _, _, -1, _, rfl, rfl, .of er, by rw [ev]; exact atI_last ws _, ?_⟩
      refine ⟨_, rfl, rfl, _, rfl, ?_⟩
      by_cases hu : word = "undo"
      · subst hu
        rw [decide_eq_true rfl]
        refine iteT ⟨_, rfl, lr, _, rfl, .inl (.of er), rfl, _, rfl, ?_⟩
        rw [hlv]
        by_cases c : outs.length = 1
        · rw [show (decide (V.int (outs.length : Nat) = V.int 1)) = true from by rw [c]; rfl]
          refine iteT ?_
          exact ⟨by show 3 ≤ sizeLine; decide, fun q nq => ⟨by show 1 ≤ sizeLine; decide, fun l nl => hR _ (by rw [deedR_undo, if_pos c]) _ l _ (same_new2 (same_new nq) nl) ((same_new nq).free nl) upd_same (Dp.same (same_new nl) (.tupM upd_same (.cons (.str _) (.cons (.bl _) (.cons (.non) .nil)))))⟩⟩
        · rw [show (decide (V.int (outs.length : Nat) = V.int 1)) = false from decide_eq_false fun z => c (by have := V.int.inj z; omega)]
          refine iteF ⟨_, rfl, _, rfl, _, rfl, lr, _, rfl, .of er, fun q nq => ⟨by show 2 ≤ sizeLine; decide, fun l nl => ?_⟩⟩
          rw [cut_butlast] at nl ⊢
          have s1 := same_new (o := .lst rv.dropLast) nq
          have e1 : upd H q (.lst rv.dropLast) q = some (.lst rv.dropLast) := upd_same
          generalize upd H q (.lst rv.dropLast) = H1 at s1 e1 nl ⊢
          have s2 := s1.trans (same_new (o := .lst [.non, .ref q]) nl)
          refine hO _ (by rw [deedR_undo, if_neg c]) _ l q s2 (s1.free nl) nq upd_same ⟨rv.dropLast, same_new nl _ _ e1, ?_⟩
          rw [List.map_dropLast]
          exact (hrv.same s2).dropLast
      · rw [decide_eq_false (fun z => hu (V.str.inj z))]
        refine iteF ?_
        refine ⟨_, rfl, _, rfl, vt, t, rfl, ht, ok.1, by have := ok.2; omega, fun H1 l1 s1 nl1 e1 => ?_⟩
        refine ⟨l1, _, rfl, .inl (.of e1), rfl, flat_strs _, _, rfl, ?_⟩
        rw [if_pos rfl, inV_str]
        by_cases hx : x ∈ t.leaves
        · rw [isOut_true hx]
          refine iteF ⟨_, rfl, _, rfl, ob, _, rfl, .inr (same_tup s1 hob), rfl, flat_strs _, _, rfl, rfl, rfl, _, rfl, ?_⟩
          rw [if_neg Bool.false_ne_true, inV_str]
          rcases hw with rfl | rfl | rfl
          · rw [decide_eq_false (by decide +kernel : ¬ V.str "lock" = V.str "let")]
            by_cases ho : x ∈ lastO outs
            · rw [isOut_true ho]
              refine iteT ⟨_, rfl, rfl, _, rfl, ?_⟩
              rw [decide_eq_true rfl]
              refine iteT ⟨_, rfl, ?_⟩
              exact ⟨by show 3 ≤ sizeLine; decide, fun q9 nq9 => ⟨by show 1 ≤ sizeLine; decide, fun l9 nl9 => hR _ (deedR_lock_out hx ho) _ l9 _ ((s1).trans (same_new2 (same_new nq9) nl9)) ((s1).free ((same_new nq9).free nl9)) upd_same (Dp.same (same_new nl9) (.tupM upd_same (.cons (.str _) (.cons (.bl _) (.cons (.str _) .nil)))))⟩⟩
            · rw [isOut_false ho]
              refine iteF ⟨_, rfl, rfl, _, rfl, ?_⟩
              rw [decide_eq_true rfl]
              refine iteT ⟨_, rfl, _, rfl, by show 1 ≤ sizeLine; decide, fun q2 nq2 => ?_⟩
              have s2 := s1.trans (same_new (o := .lst [.str x]) nq2)
              have e2 : upd H1 q2 (.lst [.str x]) q2 = some (.lst [.str x]) := upd_same
              generalize upd H1 q2 (.lst [.str x]) = H1b at s2 e2 ⊢
              refine ⟨_, q2, lastO outs, x, rfl, hv.same s2, e2, by omega, hnd, ho, fun H2 v2 s2b d2 => ?_⟩
              have S2 := s2.trans s2b
              have hol : (lockO outs x).length ≤ 1000 := by unfold lockO; rw [sortS_len, List.length_append]; simp; omega
              refine ⟨_, rfl, _, rfl, vt, v2, t, lockO outs x, rfl, .of (ht.same (S2)) ok, .of d2 hol, fun H3 v3 s3 d3 => ?_⟩
              obtain ⟨b3, xs3, rfl, hb3, hx3⟩ := d3.tupI
              refine ⟨b3, xs3, rfl, .inr hb3, ?_⟩
              have S3 := (S2).trans s3
              have ecnt : xs3.length = cnt t (lockO outs x) := hx3.len
              rw [ecnt]
              refine ⟨_, rfl, _, rfl, _, _, rfl, rfl, _, rfl, ?_⟩
              by_cases c : (cnt t (lockO outs x) : Int) > cap
              · rw [decide_eq_true c]
                refine iteT ⟨_, rfl, ?_⟩
                exact ⟨by show 3 ≤ sizeLine; decide, fun q9 nq9 => ⟨by show 1 ≤ sizeLine; decide, fun l9 nl9 => hR _ (by rw [deedR_lock hx ho, if_pos c]) _ l9 _ ((S3).trans (same_new2 (same_new nq9) nl9)) ((S3).free ((same_new nq9).free nl9)) upd_same (Dp.same (same_new nl9) (.tupM upd_same (.cons (.str _) (.cons (.bl _) (.cons (.int _) .nil)))))⟩⟩
              · rw [decide_eq_false c]
                refine iteF ⟨_, rfl, lr, _, rfl, .inl (.of (S3 _ _ er)), _, rfl, _, rfl, by show 1 ≤ sizeLine; decide, fun q4 nq4 => ?_⟩
                have s4 := same_new (o := .lst [v2]) nq4
                have e4 : upd H3 q4 (.lst [v2]) q4 = some (.lst [v2]) := upd_same
                generalize upd H3 q4 (.lst [v2]) = H4 at s4 e4 ⊢
                have S4 := S3.trans s4
                refine ⟨lr, q4, rv, [v2], rfl, rfl, S4 _ _ er, e4, by have := sizeLine_eq; simp; omega, fun q5 nq5 => ⟨by show 2 ≤ sizeLine; decide, fun l nl => ?_⟩⟩
                have s5 := same_new (o := .lst (rv ++ [v2])) nq5
                have e5 : upd H4 q5 (.lst (rv ++ [v2])) q5 = some (.lst (rv ++ [v2])) := upd_same
                generalize upd H4 q5 (.lst (rv ++ [v2])) = H5 at s5 e5 nl ⊢
                have S5 := S4.trans s5
                rw [hlv]
                refine hO _ (by rw [deedR_lock hx ho, if_neg c]) _ l q5 (S5.trans (same_new nl)) (S5.free nl) (S4.free nq5) (by rw [upd_same, if_neg hu]) ⟨rv ++ [v2], same_new nl _ _ e5, ?_⟩
                rw [List.map_append]
                exact DpAll.app (hrv.same (S5.trans (same_new nl))) (.one (d2.same (((s3.trans s4).trans s5).trans (same_new nl))))
          · rw [decide_eq_true rfl]
            by_cases ho : x ∈ lastO outs
            · rw [isOut_true ho]
              rw [decide_eq_true rfl]
              refine iteF ⟨_, rfl, rfl, _, rfl, ?_⟩
              rw [decide_eq_false (by decide +kernel : ¬ V.str "let" = V.str "lock")]
              refine iteF ⟨_, rfl, ob, rfl, comp_seq (K := K) (.inr (same_tup s1 hob)) (fun i => ((lastO outs)[i]?).bind fun y => if (!decide (y = x)) = true then some (PyData.str y) else none) (fun D i y H5 nD hy hi acc => ?_) fun D H5 acc => ?_⟩
              · rw [List.getElem?_map] at hy
                obtain ⟨z, hz, rfl⟩ := Option.map_eq_some_iff.mp hy
                rw [List.length_map] at hi
                refine ⟨rfl, _, rfl, _, rfl, rfl, _, rfl, ?_⟩
                by_cases e : z = x
                · rw [show (!decide (V.str z = V.str x)) = false from by rw [e]; simp]
                  exact iteF (acc.skip (by rw [hz]; simp [e]))
                · rw [show (!decide (V.str z = V.str x)) = true from by simp [e]]
                  exact iteT ⟨_, rfl, acc.pushN (d := PyData.str z) (by rw [hz]; simp [e]) rfl (.str _) (small1000 (by omega))⟩
              · obtain ⟨items, eD, hI⟩ := acc.list
                rw [List.length_map, fm_filt] at hI
                have ei := DpAll.strs hI
                subst ei
                refine ⟨D, _, rfl, .inl ⟨.of eD, fun q2 nq2 => ?_⟩⟩
                have S2 := (s1.trans acc.1).trans (same_new (o := .tup ((letO outs x).map V.str)) nq2)
                have d2 : Dp K (upd H5 q2 (.tup ((letO outs x).map V.str))) (.ref q2) (outD (letO outs x)) := .strs upd_same
                have hol : (letO outs x).length ≤ 1000 := by
                  have : (letO outs x).length ≤ (lastO outs).length := List.length_filter_le _ _
                  omega
                refine ⟨_, rfl, _, rfl, vt, (V.ref q2), t, letO outs x, rfl, .of (ht.same (S2)) ok, .of d2 hol, fun H3 v3 s3 d3 => ?_⟩
                obtain ⟨b3, xs3, rfl, hb3, hx3⟩ := d3.tupI
                refine ⟨b3, xs3, rfl, .inr hb3, ?_⟩
                have S3 := (S2).trans s3
                have ecnt : xs3.length = cnt t (letO outs x) := hx3.len
                rw [ecnt]
                refine ⟨_, rfl, _, rfl, _, _, rfl, rfl, _, rfl, ?_⟩
                by_cases c : (cnt t (letO outs x) : Int) > cap
                · rw [decide_eq_true c]
                  refine iteT ⟨_, rfl, ?_⟩
                  exact ⟨by show 3 ≤ sizeLine; decide, fun q9 nq9 => ⟨by show 1 ≤ sizeLine; decide, fun l9 nl9 => hR _ (by rw [deedR_let hx ho, if_pos c]) _ l9 _ ((S3).trans (same_new2 (same_new nq9) nl9)) ((S3).free ((same_new nq9).free nl9)) upd_same (Dp.same (same_new nl9) (.tupM upd_same (.cons (.str _) (.cons (.bl _) (.cons (.int _) .nil)))))⟩⟩
                · rw [decide_eq_false c]
                  refine iteF ⟨_, rfl, lr, _, rfl, .inl (.of (S3 _ _ er)), _, rfl, _, rfl, by show 1 ≤ sizeLine; decide, fun q4 nq4 => ?_⟩
                  have s4 := same_new (o := .lst [(V.ref q2)]) nq4
                  have e4 : upd H3 q4 (.lst [(V.ref q2)]) q4 = some (.lst [(V.ref q2)]) := upd_same
                  generalize upd H3 q4 (.lst [(V.ref q2)]) = H4 at s4 e4 ⊢
                  have S4 := S3.trans s4
                  refine ⟨lr, q4, rv, [(V.ref q2)], rfl, rfl, S4 _ _ er, e4, by have := sizeLine_eq; simp; omega, fun q5 nq5 => ⟨by show 2 ≤ sizeLine; decide, fun l nl => ?_⟩⟩
                  have s5 := same_new (o := .lst (rv ++ [(V.ref q2)])) nq5
                  have e5 : upd H4 q5 (.lst (rv ++ [(V.ref q2)])) q5 = some (.lst (rv ++ [(V.ref q2)])) := upd_same
                  generalize upd H4 q5 (.lst (rv ++ [(V.ref q2)])) = H5 at s5 e5 nl ⊢
                  have S5 := S4.trans s5
                  rw [hlv]
                  refine hO _ (by rw [deedR_let hx ho, if_neg c]) _ l q5 (S5.trans (same_new nl)) (S5.free nl) (S4.free nq5) (by rw [upd_same, if_neg hu]) ⟨rv ++ [(V.ref q2)], same_new nl _ _ e5, ?_⟩
                  rw [List.map_append]
                  exact DpAll.app (hrv.same (S5.trans (same_new nl))) (.one (d2.same (((s3.trans s4).trans s5).trans (same_new nl))))
            · rw [isOut_false ho]
              rw [decide_eq_false (by decide : ¬ V.bl false = V.bl true)]
              refine iteT ⟨_, rfl, rfl, _, rfl, ?_⟩
              rw [decide_eq_false (by decide +kernel : ¬ V.str "let" = V.str "lock")]
              refine iteF ⟨_, rfl, ?_⟩
              exact ⟨by show 3 ≤ sizeLine; decide, fun q9 nq9 => ⟨by show 1 ≤ sizeLine; decide, fun l9 nl9 => hR _ (deedR_let_in hx ho) _ l9 _ ((s1).trans (same_new2 (same_new nq9) nl9)) ((s1).free ((same_new nq9).free nl9)) upd_same (Dp.same (same_new nl9) (.tupM upd_same (.cons (.str _) (.cons (.bl _) (.cons (.str _) .nil)))))⟩⟩
          · exact absurd rfl hu
        · rw [isOut_false hx]
          refine iteT ⟨_, rfl, ?_⟩
          exact ⟨by show 3 ≤ sizeLine; decide, fun q9 nq9 => ⟨by show 1 ≤ sizeLine; decide, fun l9 nl9 => hR _ (deedR_box hu hx) _ l9 _ ((s1).trans (same_new2 (same_new nq9) nl9)) ((s1).free ((same_new nq9).free nl9)) upd_same (Dp.same (same_new nl9) (.tupM upd_same (.cons (.str _) (.cons (.bl _) (.cons (.str _) .nil)))))⟩⟩
end
end K90
end

section
set_option Elab.async false
set_option linter.all false
set_option maxRecDepth 100000
set_option maxHeartbeats 4000000
/-! two lists that grow beside each other; the data of told_right -/
namespace K90
open PySem PySem.Spec PyProof.Rows L2
theorem cnt_le {t : T} {o : List Str} (h : t.size ≤ 100) : cnt t o ≤ 200 := by
  rw [cnt_eq]
  split
  · omega
  · have := rowsGo_len (nums t o) (2 * t.size) [(0, t)] []
    unfold rowsAll
    simp at this
    omega
theorem smD_nd (n : Nat) (p : Nd) : smD (n + 1) (ndD p) = true := by
  cases n <;> rfl
theorem smD_part (n : Nat) (p q : Nd) : smD (n + 2) (partD p q) = true := by
  show (decide (2 ≤ 1000) && (smD (n + 1) (ndD p) && (smD (n + 1) (ndD q) && true))) = true
  rw [smD_nd, smD_nd]
  rfl
theorem smD_fl (n : Nat) (r : List Nd) : smD (n + 2) (flD r) = true := by
  cases r with
  | nil => rfl
  | cons p r => exact smD_part n _ _
theorem smD_whole (n : Nat) (t : T) : smD (n + 2) (wholeD t) = true := by
  show (decide (2 ≤ 1000) && (smD (n + 1) (ndD (0, t)) && (smD (n + 1) (.tuple []) && true))) = true
  rw [smD_nd]
  rfl
theorem smD_hdr {t : T} {o : List Str} (h : t.size ≤ 100) (n : Nat) : smD (n + 3) (hdrD t o) = true := by
  show (decide ((LH t o).length ≤ 1000) && (LH t o).all (smD (n + 2))) = true
  have hl : (LH t o).length ≤ 1000 := by have := cnt_le (o := o) h; unfold cnt at this; omega
  rw [decide_eq_true hl, Bool.true_and, List.all_eq_true]
  intro d hd
  unfold LH partsL at hd
  split at hd
  · rw [List.mem_singleton.mp hd]
    exact smD_whole n t
  · have hd := (List.mergeSort_perm _ _).mem_iff.mp hd
    obtain ⟨r, _, rfl⟩ := List.mem_map.mp hd
    exact smD_fl n r
theorem smD_out {o : List Str} (h : o.length ≤ 1000) (n : Nat) : smD (n + 1) (outD o) = true := by
  show (decide ((o.map PyData.str).length ≤ 1000) && (o.map PyData.str).all (smD n)) = true
  rw [all_smD_str, List.length_map, decide_eq_true h]
  rfl
theorem smD_strs {o : List Str} (h : o.length ≤ 1000) (n : Nat) : smD (n + 1) (.list (strsD o)) = true := smD_out h n
theorem smD_int (n : Nat) (i : Int) : smD n (.int i) = true := by cases n <;> rfl
theorem smD_nats {l : List Nat} (h : l.length ≤ 1000) (n : Nat) : smD (n + 1) (.list (natsD l)) = true := by
  show (decide ((natsD l).length ≤ 1000) && (natsD l).all (smD n)) = true
  rw [show (natsD l).length = l.length from List.length_map _, decide_eq_true h, Bool.true_and, List.all_eq_true]
  intro d hd
  obtain ⟨k, _, rfl⟩ := List.mem_map.mp hd
  exact smD_int n _
theorem keysL_len (outs : List (List Str)) (x : Str) : (keysL outs x).length ≤ outs.length := Nat.le_trans (List.length_filter_le _ _) (by rw [List.length_range]; exact Nat.le_refl _)
theorem restL_len (t : T) (o : List Str) : (restL t o).length ≤ t.size := Nat.le_trans (List.length_filter_le _ _) (by rw [sortS_len, t.len_leaves]; exact Nat.le_refl _)
theorem roomL_len (t : T) (cap : Int) (o : List Str) : (roomL t cap o).length ≤ t.size := Nat.le_trans (List.length_filter_le _ _) (restL_len t o)
def firstD (t : T) (outs : List (List Str)) : List PyData := [outD (lastO outs), hdrD t (lastO outs), .int (sentN t outs)]
def keyD (outs : List (List Str)) (x : Str) : PyData := .list (natsD (keysL outs x))
def whoD (t : T) (outs : List (List Str)) (k : Nat) : PyData := outD (restL t (outs.getD k []))
def tellA (t : T) (outs : List (List Str)) : List PyData := firstD t outs ++ t.leaves.map (keyD outs)
def tellB (t : T) (outs : List (List Str)) : List PyData := tellA t outs ++ (List.range outs.length).map (whoD t outs)
def tellD (t : T) (cap : Int) (outs : List (List Str)) : List PyData := tellB t outs ++ [.list (strsD (roomL t cap (lastO outs)))]
theorem tellD_len {t : T} {cap : Int} {outs : List (List Str)} : (tellD t cap outs).length = 3 + t.size + outs.length + 1 := by
  unfold tellD tellB tellA firstD
  rw [List.length_append, List.length_append, List.length_append, List.length_map, List.length_map, List.length_range, t.len_leaves]
  rfl
theorem smD_tell {t : T} {cap : Int} {outs : List (List Str)} (h : t.size ≤ 100) (h60 : outs.length ≤ 60) (hl : (lastO outs).length ≤ 1000) : smD 20 (.list (tellD t cap outs)) = true := by
  show (decide ((tellD t cap outs).length ≤ 1000) && (tellD t cap outs).all (smD 19)) = true
  rw [tellD_len, decide_eq_true (by omega), Bool.true_and, List.all_eq_true]
  intro d hd
  unfold tellD tellB tellA firstD at hd
  rcases List.mem_append.mp hd with hd | hd
  · rcases List.mem_append.mp hd with hd | hd
    · rcases List.mem_append.mp hd with hd | hd
      · rcases List.mem_cons.mp hd with rfl | hd
        · exact smD_out hl 18
        rcases List.mem_cons.mp hd with rfl | hd
        · exact smD_hdr h 16
        rw [List.mem_singleton.mp hd]
        rfl
      · obtain ⟨x, _, rfl⟩ := List.mem_map.mp hd
        exact smD_nats (Nat.le_trans (keysL_len outs x) (by omega)) 18
    · obtain ⟨k, _, rfl⟩ := List.mem_map.mp hd
      exact smD_out (Nat.le_trans (restL_len t _) (by omega)) 18
  · rw [List.mem_singleton.mp hd]
    exact smD_strs (Nat.le_trans (roomL_len t cap _) (by omega)) 18
/-! ### two lists -/
def Item (K : PySem.W.Frag) (H0 : Hp) (D1 D2 : Addr) (H : Hp) (v : V) (d : PyData) : Prop := Dp K (hide [D1, D2] H) v d ∧ (isLD d = true → ∃ a xs, v = .ref a ∧ H a = some (.lst xs) ∧ H0 a = none ∧ a ∉ [D1, D2] ∧ xs.length ≤ 1000)
def Two (K : PySem.W.Frag) (H0 : Hp) (D1 D2 : Addr) (ds1 ds2 : List PyData) (H : Hp) : Prop := Same H0 H ∧ H0 D1 = none ∧ H0 D2 = none ∧ D1 ≠ D2 ∧ ∃ a1 a2, H D1 = some (.lst a1) ∧ H D2 = some (.lst a2) ∧ Paired (Item K H0 D1 D2 H) a1 ds1 ∧ DpAll K (hide [D1, D2] H) a2 ds2
theorem Item.keep {K : PySem.W.Frag} {H0 H H' : Hp} {D1 D2 : Addr} {v : V} {d : PyData} (k : Keep [D1, D2] H H') (h : Item K H0 D1 D2 H v d) : Item K H0 D1 D2 H' v d := by
  refine ⟨Dp.same (hide_keep k) h.1, fun e => ?_⟩
  obtain ⟨a, xs, h1, h2, h3, h4, h5⟩ := h.2 e
  exact ⟨a, xs, h1, k _ _ h2 h4, h3, h4, h5⟩
theorem items_keep {K : PySem.W.Frag} {H0 H H' : Hp} {D1 D2 : Addr} (k : Keep [D1, D2] H H') : ∀ {vs : List V} {ds : List PyData}, Paired (Item K H0 D1 D2 H) vs ds → Paired (Item K H0 D1 D2 H') vs ds
  | _, _, .nil => .nil
  | _, _, .cons h r => .cons (h.keep k) (items_keep k r)
section
variable {K : PySem.W.Frag} {H0 H H' : Hp} {D1 D2 : Addr} {ds1 ds2 : List PyData} {d : PyData} {y : V}
theorem Two.same (a : Two K H0 D1 D2 ds1 ds2 H) (s : Same H H') : Two K H0 D1 D2 ds1 ds2 H' := by
  obtain ⟨s1, n1, n2, ne, a1, a2, e1, e2, i1, i2⟩ := a
  have k : Keep [D1, D2] H H' := .of s _
  exact ⟨s1.trans s, n1, n2, ne, a1, a2, s _ _ e1, s _ _ e2, items_keep k i1, DpAll.same (hide_keep k) i2⟩
theorem Two.push1 (a : Two K H0 D1 D2 ds1 ds2 H) (h : Item K H0 D1 D2 H y d) (z : ds1.length < sizeLine) : ∃ acc, H D1 = some (.lst acc) ∧ acc.length < sizeLine ∧ Two K H0 D1 D2 (ds1 ++ [d]) ds2 (upd H D1 (.lst (acc ++ [y]))) := by
  obtain ⟨s1, n1, n2, ne, a1, a2, e1, e2, i1, i2⟩ := a
  have k : Keep [D1, D2] H (upd H D1 (.lst (a1 ++ [y]))) := (Keep.of (.refl H) _).upd (.inl (by simp))
  refine ⟨a1, e1, by rw [paired_len i1]; exact z, fun b u q => by rw [upd_ne (ne_of_none q n1)]; exact s1 b u q, n1, n2, ne, a1 ++ [y], a2, upd_same, by rw [upd_ne (Ne.symm ne)]; exact e2, paired_app (items_keep k i1) (.cons (h.keep k) .nil), DpAll.same (hide_keep k) i2⟩
theorem Two.push2 (a : Two K H0 D1 D2 ds1 ds2 H) (h : Dp K (hide [D1, D2] H) y d) (z : ds2.length < sizeLine) : ∃ acc, H D2 = some (.lst acc) ∧ acc.length < sizeLine ∧ Two K H0 D1 D2 ds1 (ds2 ++ [d]) (upd H D2 (.lst (acc ++ [y]))) := by
  obtain ⟨s1, n1, n2, ne, a1, a2, e1, e2, i1, i2⟩ := a
  have k : Keep [D1, D2] H (upd H D2 (.lst (a2 ++ [y]))) := (Keep.of (.refl H) _).upd (.inl (by simp))
  refine ⟨a2, e2, by rw [i2.len]; exact z, fun b u q => by rw [upd_ne (ne_of_none q n2)]; exact s1 b u q, n1, n2, ne, a1, a2 ++ [y], by rw [upd_ne ne]; exact e1, upd_same, items_keep k i1, DpAll.app (DpAll.same (hide_keep k) i2) (.one (Dp.same (hide_keep k) h))⟩
theorem Two.flatL (a : Two K H0 D1 D2 ds1 ds2 H) (q : noL d = true) (h : Dp K H y d) : Dp K (hide [D1, D2] H) y d := by
  obtain ⟨s1, n1, n2, ne, a1, a2, e1, e2, i1, i2⟩ := a
  exact Dp.keep (l := [D1, D2]) (fun b o e n => hide_at e n) (Soft.noTup (.twoL e1 e2)) q h
theorem Two.item (a : Two K H0 D1 D2 ds1 ds2 H) (q : noL d = true) (h : Dp K H y d) : Item K H0 D1 D2 H y d := ⟨a.flatL q h, fun e => by cases d <;> first | exact absurd e Bool.false_ne_true | (rw [noL] at q; cases q)⟩
/-- a list of flat things, new since H' (D1, D2 stood) -/
theorem Two.lst {l : Addr} {xs : List V} {es : List PyData} (a : Two K H0 D1 D2 ds1 ds2 H') (s : Same H' H) (nl : H' l = none) (e : H l = some (.lst xs)) (h : ∀ G, DpAll K G xs es) (hz : xs.length ≤ 1000) : Item K H0 D1 D2 H (.ref l) (.list es) := by
  obtain ⟨s1, n1, n2, ne, a1, a2, e1, e2, i1, i2⟩ := a
  have h1 : l ≠ D1 := fun z => by rw [z, e1] at nl; cases nl
  have h2 : l ≠ D2 := fun z => by rw [z, e2] at nl; cases nl
  have hm : l ∉ [D1, D2] := by simp [h1, h2]
  exact ⟨.lstM (hide_at e hm) (h _), fun _ => ⟨l, xs, rfl, e, s1.free nl, hm, hz⟩⟩
theorem items_dp : ∀ {vs : List V} {ds : List PyData}, Paired (Item K H0 D1 D2 H) vs ds → DpAll K H vs ds
  | _, _, .nil => .nil
  | _, _, .cons h r => .cons (Dp.same hide_same h.1) (items_dp r)
theorem items_of {l : List Addr} : ∀ {vs : List V} {ds : List PyData}, D1 ∈ l → True → (∀ v d, noL d = true → Dp K H v d → Dp K (hide [D1, D2] H) v d) → noLs ds = true → DpAll K H vs ds → Paired (Item K H0 D1 D2 H) vs ds ∧ DpAll K (hide [D1, D2] H) vs ds
  | _, _, _, _, _, _, .nil => ⟨.nil, .nil⟩
  | _, d :: _, hl, ht, hf, q, .cons h r => by
    rw [noLs, Bool.and_eq_true] at q
    obtain ⟨i1, i2⟩ := items_of hl ht hf q.2 r
    have z := hf _ _ q.1 h
    refine ⟨.cons ⟨z, fun e => ?_⟩ i1, .cons z i2⟩
    have q1 := q.1
    cases d <;> first | exact absurd e Bool.false_ne_true | (rw [noL] at q1; cases q1)
theorem Two.of {a1 a2 : List V} (s : Same H0 H) (n1 : H0 D1 = none) (n2 : H0 D2 = none) (ne : D1 ≠ D2) (e1 : H D1 = some (.lst a1)) (e2 : H D2 = some (.lst a2)) (q1 : noLs ds1 = true) (q2 : noLs ds2 = true) (d1 : DpAll K H a1 ds1) (d2 : DpAll K H a2 ds2) : Two K H0 D1 D2 ds1 ds2 H := by
  have hf : ∀ v d, noL d = true → Dp K H v d → Dp K (hide [D1, D2] H) v d := fun v d q h => Dp.keep (l := [D1, D2]) (fun b o e n => hide_at e n) (Soft.noTup (.twoL e1 e2)) q h
  exact ⟨s, n1, n2, ne, a1, a2, e1, e2, (items_of (l := [D1]) (by simp) trivial hf q1 d1).1, (items_of (H0 := H0) (l := [D1]) (by simp) trivial hf q2 d2).2⟩
end
theorem noL_hdr {t : T} {o : List Str} : noL (hdrD t o) = true := by
  show noLs (LH t o) = true
  rw [noLs_all, List.all_eq_true]
  intro d hd
  unfold LH partsL at hd
  split at hd
  · rw [List.mem_singleton.mp hd]
    rfl
  · have hd := (List.mergeSort_perm _ _).mem_iff.mp hd
    obtain ⟨r, _, rfl⟩ := List.mem_map.mp hd
    cases r <;> rfl
theorem noLs_first {t : T} {outs : List (List Str)} : noLs (firstD t outs) = true := by
  unfold firstD
  rw [noLs, noLs, noLs, noLs, noL_out, noL_hdr]
  rfl
theorem tell_flat {t : T} {cap : Int} {outs : List (List Str)} : ∀ d ∈ tellD t cap outs, isLD d = false → noL d = true := by
  intro d hd hl
  unfold tellD tellB tellA firstD at hd
  rcases List.mem_append.mp hd with hd | hd
  · rcases List.mem_append.mp hd with hd | hd
    · rcases List.mem_append.mp hd with hd | hd
      · rcases List.mem_cons.mp hd with rfl | hd
        · exact noL_out _
        rcases List.mem_cons.mp hd with rfl | hd
        · exact noL_hdr
        rw [List.mem_singleton.mp hd]
        rfl
      · obtain ⟨x, _, rfl⟩ := List.mem_map.mp hd
        cases hl
    · obtain ⟨k, _, rfl⟩ := List.mem_map.mp hd
      exact noL_out _
  · rw [List.mem_singleton.mp hd] at hl
    cases hl
end K90
end

section
set_option Elab.async false
set_option linter.all false
set_option maxRecDepth 100000
set_option maxHeartbeats 4000000
/-! the law's told_right -/
namespace K90
open PySem PySem.Spec PyProof.Rows L2
abbrev EF : XK := fun _ _ _ => False
theorem pF {w : World} {X : Cx} : Passes (CXE w) X EF := fun _ _ _ _ _ _ _ ⟨_, _, _, _, _, _, _, _, _, _, _, _, h⟩ => h.elim
theorem pFA {w : World} {X : Cx} (σ : L2.St) : PassesAt (CXE w) X σ EF := fun _ _ _ _ _ _ ⟨_, _, _, _, _, _, _, _, _, _, _, _, h⟩ => h.elim
theorem lenK (K : PySem.W.Frag) {X : Cx} (e : X.K = K) : CallR X (.builtin "len") (fun xs H Q => ∃ p ys, xs = [.ref p] ∧ (SqL K H p ys ∨ SqT K H p ys) ∧ Q (.int ys.length) H) := e ▸ call_len_seq
def spTold (K : PySem.W.Frag) : Sp := fun vs H Q _ => ∃ (vt : V) (cap : Int) (p lr lo ld : Addr) (t : T) (outs : List (List Str)) (deeds : List (Str × Str)), vs = [vt, .int cap, .ref p, .ref lr] ∧ Dp K H vt t.data ∧ SAt K H p lo ld t cap outs deeds ∧ RowsAt K H lr outs ∧ (lastO outs).Nodup ∧ ∀ H', Same H H' → Q (.bl true) H'
section
variable {w : World} {K : PySem.W.Frag} {mg : Str → Option Value} {base : Heap}
theorem ok_L_told (T : Txt K mg) : FnX w K mg base CX0 30 ("_law_told_right", none) (spTold K) := by
  have FO := ok_S_out (w := w) (base := base) T
  have FHd := ok_S_header (w := w) (base := base) T
  have FSe := ok_S_sent (w := w) (base := base) T
  have FLH := ok_least_header (w := w) (base := base) T
  have FLv := ok_L_leaves (w := w) (base := base) T 20
  have FKy := ok_S_keys (w := w) (base := base) T
  obtain ⟨fdW, FWh, _, bW⟩ := ok_S_whoK (w := w) (base := base) T
  have FRs := ok_L_rest (w := w) (base := base) T
  have FPt := ok_L_put (w := w) (base := base) T
  have FRm := ok_S_room (w := w) (base := base) T
  have FSm := ok_L_same (w := w) (base := base) T 20
  refine fnr (ps := ["_law_tale_here", "_law_cap_so", "_law_host", "_law_rows_so"]) (T.fn 47) sc_L_told_right ?ln ?bd (fun _ _ _ _ _ _ us hl => match us, hl with | [_, _, _, _], _ => rfl)
  case ln =>
    rintro _ _ _ _ ⟨vt, cap, p, lr, lo, ld, t, outs, deeds, rfl, _⟩
    rfl
  case bd =>
    intro cdv A outer s H vs Q E hr h
    apply bodyN
    case h =>
      apply pss_cons
      · exact ps_set (i := 4) sc_L_told_right.nd rfl (.inl rfl) (pe_lst (pa_cons (SlX.pe_methSl0 (pv 2) (T.scls (x := "Sender")) (T.meth (x := "Sender") (m := "out")) FO (hr.mono (by decide)) pass0)
          (pa_cons (SlX.pe_methSl0 (pv 2) (T.scls (x := "Sender")) (T.meth (x := "Sender") (m := "header")) FHd (hr.mono (by decide)) pass0) (pa_cons (SlX.pe_methSl0 (pv 2) (T.scls (x := "Sender")) (T.meth (x := "Sender") (m := "sent")) FSe (hr.mono (by decide)) pass0) pa_nil))))
      apply pss_cons
      · exact ps_set (i := 5) sc_L_told_right.nd rfl (.inl rfl) (pe_lst (pa_cons (pe_ix ix_list (pv 3) (pe_un un_neg pe_int) (fun _ _ => rfl))
          (pa_cons (pe_cR FLH (hr.mono (by decide)) (by rfl) T.glo (T.kp (d := d_least_header) 16) pass0 (pa_cons (pv 0) (pa_cons (pe_ix ix_list (pv 3) (pe_un un_neg pe_int) (fun _ _ => rfl)) pa_nil)))
          (pa_cons (pe_callB (cr_sum rfl) (by rfl) T.free boot_sum (pa_cons (pe_lcR (own := [("_law_own", 9)]) (g := gName 9) (tt := tYes) (by rfl) sc_L_told_right.nd (pi_seq (pv 3)) (blkOk_by (own := [("_law_own", 9)]) (N := N_L_told_right) (sc := defScope s_L_told_right) (by decide +kernel))
            (fun _ _ _ _ _ => pg_name (i := 9) sc_L_told_right.nd rfl (.inl rfl)) (fun _ _ _ _ _ => pts_nil) (fun _ _ _ _ _ => pe_callB (lenK K rfl) (by rfl) T.free PySem.boot_len (pa_cons (pe_cR FLH (hr.mono (by decide)) (by rfl) T.glo (T.kp (d := d_least_header) 16) pass0 (pa_cons (pv 0) (pa_cons (pv 9) pa_nil))) pa_nil))) pa_nil)) pa_nil))))
      apply pss_cons
      · apply ps_for PassesOwn.never rfl
        · exact pi_list (pe_cR FLv (hr.mono (by decide)) (by rfl) T.glo (T.kp (d := d_L_leaves) 42) pass0 (pa_cons (pv 0) pa_nil))
        · exact pg_name (i := 6) sc_L_told_right.nd rfl (.inr rfl)
        · exact pss_cons (ps_expr (pe_bm PySem.F.plainAttrs_list PySem.F.slot_list_append PySem.F.type_list_append mt_append (pv 4) (pa_cons (SlX.pe_methSl (pv 2) (T.scls (x := "Sender")) (T.meth (x := "Sender") (m := "keys")) FKy (hr.mono (by decide)) pF (pa_cons (pv 6) pa_nil)) pa_nil)))
            (pss_one (ps_expr (pe_bm PySem.F.plainAttrs_list PySem.F.slot_list_append PySem.F.type_list_append mt_append (pv 5) (pa_cons (pe_lcR (own := [("_law_k", 7)]) (g := gName 7) (by rfl) sc_L_told_right.nd (pi_range1 (by rfl) T.free (pa_cons (pe_callB call_len_seq (by rfl) T.free PySem.boot_len (pa_cons (pv 3) pa_nil)) pa_nil)) (blkOk_by (own := [("_law_k", 7)]) (N := N_L_told_right) (sc := defScope s_L_told_right) (by decide +kernel))
              (fun _ _ _ _ _ => pg_name (i := 7) sc_L_told_right.nd rfl (.inl rfl)) (fun _ _ _ _ _ => pts_one (pt_cmpR (opNotIn K rfl) (pv 6) (pe_ix (ixL K rfl) (pv 3) (pv 7) (fun _ _ => rfl)) (by rfl))) (fun _ _ _ _ _ => pv 7)) pa_nil))))
      apply pss_cons
      · apply ps_for PassesOwn.never rfl
        · exact pi_range1 (by rfl) T.free (pa_cons (pe_callB call_len_seq (by rfl) T.free PySem.boot_len (pa_cons (pv 3) pa_nil)) pa_nil)
        · exact pg_name (i := 7) sc_L_told_right.nd rfl (.inl rfl)
        · exact pss_cons (ps_expr (pe_bm PySem.F.plainAttrs_list PySem.F.slot_list_append PySem.F.type_list_append mt_append (pv 4) (pa_cons (pe_methK (E := fun _ => EF) (ks := ["number"]) (pv 2) (T.scls (x := "Sender")) (T.meth (x := "Sender") (m := "who")) FWh bW (hr.mono (by decide)) (fun σ => pFA σ) (pk_cons (pv 7) pk_nil)) pa_nil)))
            (pss_one (ps_expr (pe_bm PySem.F.plainAttrs_list PySem.F.slot_list_append PySem.F.type_list_append mt_append (pv 5) (pa_cons (pe_cR FRs (hr.mono (by decide)) (by rfl) T.glo (T.kp (d := d_L_rest) 43) pass0 (pa_cons (pv 0) (pa_cons (pe_ix ix_list (pv 3) (pv 7) (fun _ _ => rfl)) pa_nil))) pa_nil))))
      apply pss_cons
      · exact ps_set (i := 8) sc_L_told_right.nd rfl (.inl rfl) (pe_lst pa_nil)
      apply pss_cons
      · apply ps_for PassesOwn.never rfl
        · exact pi_seq (pe_cR FRs (hr.mono (by decide)) (by rfl) T.glo (T.kp (d := d_L_rest) 43) pass0 (pa_cons (pv 0) (pa_cons (pe_ix ix_list (pv 3) (pe_un un_neg pe_int) (fun _ _ => rfl)) pa_nil)))
        · exact pg_name (i := 6) sc_L_told_right.nd rfl (.inr rfl)
        · exact pss_one (ps_set (i := 8) sc_L_told_right.nd rfl (.inl rfl) (pe_op op_cat (pv 8) (pe_op op_rep (pe_lst (pa_cons (pv 6) pa_nil)) (pe_callTy call_int1 (by rfl) T.free bt_int (pa_cons (pe_cmpR op_le (pe_callB call_len_seq (by rfl) T.free PySem.boot_len (pa_cons (pe_cR FLH (hr.mono (by decide)) (by rfl) T.glo (T.kp (d := d_least_header) 16) pass0 (pa_cons (pv 0) (pa_cons (pe_cR FPt (hr.mono (by decide)) (by rfl) T.glo (T.kp (d := d_L_put) 44) pass0 (pa_cons (pe_ix ix_list (pv 3) (pe_un un_neg pe_int) (fun _ _ => rfl)) (pa_cons (pe_lst (pa_cons (pv 6) pa_nil)) pa_nil))) pa_nil))) pa_nil)) (pv 1) (nomark _)) pa_nil)))))
      apply pss_cons
      · exact ps_expr (pe_bm PySem.F.plainAttrs_list PySem.F.slot_list_append PySem.F.type_list_append mt_append (pv 4) (pa_cons (SlX.pe_methSl0 (pv 2) (T.scls (x := "Sender")) (T.meth (x := "Sender") (m := "room")) FRm (hr.mono (by decide)) pass0) pa_nil))
      apply pss_cons
      · exact ps_if (pt_not (pt_val (pe_cR FSm (hr.mono (by decide)) (by rfl) T.glo (T.kp (d := d_L_same) 38) pass0 (pa_cons (pv 4) (pa_cons (pe_op op_cat (pv 5) (pe_lst (pa_cons (pv 8) pa_nil))) pa_nil))))) (pss_one (ps_ret pe_bl)) pss_nil
      apply pss_cons
      · apply ps_for PassesOwn.never rfl
        · exact pi_list (pv 4)
        · exact pg_name (i := 9) sc_L_told_right.nd rfl (.inl rfl)
        · exact pss_one (ps_if (pt_val (pe_callB call_isi (by rfl) T.free boot_isi (pa_cons (pv 9) (pa_cons (pe_bltn (v := .ty "list") (by rfl) T.free boot_list rfl) pa_nil)))) (pss_one (ps_expr (pe_bm PySem.F.plainAttrs_list PySem.F.slot_list_append PySem.F.type_list_append mt_append (pv 9) (pa_cons pe_str pa_nil)))) pss_nil)
      · exact pss_one (ps_ret pe_bl)
    case r =>
      obtain ⟨vt, cap, p, lr, lo, ld, t, outs, deeds, rfl, ht, hs, hrw, hnd, hQ⟩ := h
      have ⟨dx, tv, vs, ws, h1, h2, h3, h4, h5, h6, h7, h8⟩ := id hs
      obtain ⟨rv, er, hrv⟩ := id hrw
      have h60 := h8.few
      have hll := h8.last_len
      have hp : 0 < outs.length := by omega
      have ok := h8.ok
      have hsz := ok.2
      obtain ⟨wsr, vl, ev, hvl⟩ := RowsAt.last hrv hp
      have hlv := hrv.len
      rw [List.length_map] at hlv
      have hat : atI rv (-1) = some vl := by rw [ev]; exact atI_last wsr vl
      refine ⟨_, rfl, p, dx, _, rfl, h1, p, lo, ld, t, cap, outs, deeds, rfl, hs, fun H1 v1 s1 d1 => ?_⟩
      refine ⟨_, rfl, p, dx, _, rfl, slt_same s1 h1, p, lo, ld, t, cap, outs, deeds, rfl, hs.same s1, fun H2 v2 s2 d2 => ?_⟩
      have s12 := s1.trans s2
      refine ⟨_, rfl, p, dx, _, rfl, slt_same s12 h1, p, lo, ld, t, cap, outs, deeds, rfl, hs.same s12, fun H3 s3 => ?_⟩
      have s13 := s12.trans s3
      refine ⟨by show 3 ≤ sizeLine; decide, fun D1 nD1 => ?_⟩
      have s4 := same_new (o := .lst [v1, v2, .int (sentN t outs)]) nD1
      have e4 : upd H3 D1 (.lst [v1, v2, .int (sentN t outs)]) D1 = some (.lst [v1, v2, .int (sentN t outs)]) := upd_same
      have dA : DpAll K (upd H3 D1 (.lst [v1, v2, .int (sentN t outs)])) [v1, v2, .int (sentN t outs)] (firstD t outs) := .cons (d1.same ((s2.trans s3).trans s4)) (.cons (d2.same (s3.trans s4)) (.cons (.int _) .nil))
      generalize upd H3 D1 (.lst [v1, v2, .int (sentN t outs)]) = H4 at s4 e4 dA ⊢
      have s14 := s13.trans s4
      refine ⟨_, rfl, _, rfl, _, _, -1, _, rfl, rfl, .of (s14 _ _ er), hat, ?_⟩
      refine ⟨_, rfl, _, rfl, _, rfl, _, _, -1, _, rfl, rfl, .of (s14 _ _ er), hat, vt, vl, t, lastO outs, rfl, .of (ht.same s14) ok, .of (hvl.same s14) (by omega), fun H5 v5 s5 d5 => ?_⟩
      have s15 := s14.trans s5
      refine ⟨_, rfl, lr, rfl, comp_seq (K := K) (.inl (.of (s15 _ _ er))) (fun i => (outs[i]?).map fun o => PyData.int (cnt t o : Nat)) (fun D i x H6 nD hx hi acc => ?_) fun D H6 acc => ?_⟩
      · obtain ⟨d, hd, hxd⟩ := hrv.get hx
        rw [List.getElem?_map] at hd
        obtain ⟨o, ho, rfl⟩ := Option.map_eq_some_iff.mp hd
        have hso := h8.sub o (List.mem_of_getElem? ho)
        have sA := s15.trans acc.1
        refine ⟨rfl, yes_t ⟨_, rfl, _, rfl, vt, x, t, o, rfl, .of (ht.same sA) ok, .of (hxd.same sA) (Nat.le_trans hso.1 (by decide)), fun H7 v7 s7 d7 => ?_⟩⟩
        obtain ⟨b7, xs7, rfl, hb7, hx7⟩ := d7.tupI
        refine ⟨b7, xs7, rfl, .inr hb7, ?_⟩
        rw [show xs7.length = cnt t o from hx7.len]
        exact (acc.same s7).pushN (d := .int (cnt t o : Nat)) (by show (outs[i]?).map _ = _; rw [ho]; rfl) rfl (.int _) (small1000 (by omega))
      · obtain ⟨items, eD, hI⟩ := acc.list
        rw [hlv, fm_map] at hI
        have e : (outs.map fun o => PyData.int (cnt t o : Nat)) = (outs.map fun o => (cnt t o : Int)).map PyData.int := by rw [List.map_map]; rfl
        rw [e] at hI
        have ei := ints_back hI
        refine ⟨D, _, rfl, .of (by rw [eD, ei]), ?_⟩
        have s16 := s15.trans acc.1
        refine ⟨by show 3 ≤ sizeLine; decide, fun D2 nD2 => ?_⟩
        rw [show (List.map (fun o => ((cnt t o : Nat) : Int)) outs).sum = sentN t outs from rfl]
        have s46 := s5.trans acc.1
        have ne12 : D1 ≠ D2 := ne_of_none (s46 _ _ e4) nD2
        have s7 := same_new (o := .lst [vl, v5, .int (sentN t outs)]) nD2
        have T7 : Two K H D1 D2 (firstD t outs) (firstD t outs) (upd H6 D2 (.lst [vl, v5, .int (sentN t outs)])) :=
          .of (s16.trans s7) (s13.free nD1) (s16.free nD2) ne12 (s7 _ _ (s46 _ _ e4)) upd_same noLs_first noLs_first (dA.same (s46.trans s7)) (.cons (hvl.same (s16.trans s7)) (.cons (d5.same (acc.1.trans s7)) (.cons (.int _) .nil)))
        generalize upd H6 D2 (.lst [vl, v5, .int (sentN t outs)]) = H7 at T7 s7 ⊢
        have s07 := T7.1
        refine ⟨_, rfl, vt, t, rfl, ht.same s07, ok.1, by omega, fun H8 ll s8 nl8 e8 => ?_⟩
        have T8 := T7.same s8
        have hll1 : ll ≠ D1 := fun z => by obtain ⟨_, _, _, _, a1, a2, q1, q2, _⟩ := T7; rw [z, q1] at nl8; cases nl8
        have hll2 : ll ≠ D2 := fun z => by obtain ⟨_, _, _, _, a1, a2, q1, q2, _⟩ := T7; rw [z, q2] at nl8; cases nl8
        refine ⟨ll, rfl, ⟨_, .of e8⟩, ?_⟩
        have hlen100 : t.leaves.length ≤ 100 := by rw [t.len_leaves]; exact hsz
        refine for_list (xs := t.leaves.map V.str) (fun i σ' H' => ∃ xv, σ' = [some vt, some (.int cap), some (.ref p), some (.ref lr), some (.ref D1), some (.ref D2), xv, none, none, none] ∧ Two K H D1 D2 (firstD t outs ++ (t.leaves.take i).map (keyD outs)) (firstD t outs ++ (t.leaves.take i).map (keyD outs)) H' ∧ H' ll = some (.lst (t.leaves.map V.str)))
          ⟨none, rfl, by rw [List.take_zero, List.map_nil, List.append_nil]; exact T8, e8⟩ (fun i σ' H' _ ⟨xv, _, _, q⟩ => .of q) (fun i x σ' H' hx ⟨xv, eσ, Tw, eL⟩ => ?_) (fun σ' H' ⟨xv, eσ, Tw, eL⟩ => ?_)
        · subst eσ
          rw [List.getElem?_map] at hx
          obtain ⟨y, hy, rfl⟩ := Option.map_eq_some_iff.mp hx
          have hlt := (List.getElem?_eq_some_iff.mp hy).1
          have hyl : y ∈ t.leaves := List.mem_of_getElem? hy
          have etk : (t.leaves.take (i + 1)).map (keyD outs) = (t.leaves.take i).map (keyD outs) ++ [keyD outs y] := by rw [List.take_add_one, hy, List.map_append]; rfl
          have ldn : (firstD t outs ++ (t.leaves.take i).map (keyD outs)).length = 3 + i := by rw [List.length_append, List.length_map, List.length_take, Nat.min_eq_left (by omega)]; rfl
          have sK := Tw.1
          obtain ⟨a1, hD1⟩ : ∃ a1, H' D1 = some (.lst a1) := by
            obtain ⟨_, _, _, _, a1, a2, q1, q2, _⟩ := Tw
            exact ⟨a1, q1⟩
          refine ⟨_, rfl, .inl ⟨rfl, _, .of hD1⟩, _, rfl, p, dx, _, rfl, slt_same sK h1, _, rfl, p, lo, ld, t, cap, outs, deeds, y, rfl, hs.same sK, fun nx => absurd hyl nx, fun _ H9 l9 s9 nl9 e9 => ?_⟩
          have T9 := Tw.same s9
          have it9 : Item K H D1 D2 H9 (.ref l9) (keyD outs y) := Tw.lst s9 nl9 e9 (fun G => DpAll.ofInts (fun (k : Nat) => (k : Int)) _) (by rw [List.length_map]; have := keysL_len outs y; omega)
          obtain ⟨acc1, q1, z1, T10⟩ := T9.push1 it9 (small1000 (by omega))
          refine ⟨D1, acc1, _, rfl, rfl, q1, z1, ?_⟩
          have eL10 : upd H9 D1 (.lst (acc1 ++ [.ref l9])) ll = some (.lst (t.leaves.map V.str)) := by rw [upd_ne hll1]; exact s9 _ _ eL
          generalize upd H9 D1 (.lst (acc1 ++ [.ref l9])) = H10 at T10 eL10 ⊢
          have sK10 := T10.1
          obtain ⟨a2, hD2⟩ : ∃ a2, H10 D2 = some (.lst a2) := by
            obtain ⟨_, _, _, _, a1, a2, q1, q2, _⟩ := T10
            exact ⟨a2, q2⟩
          refine ⟨_, rfl, .inl ⟨rfl, _, .of hD2⟩, _, rfl, lr, _, rfl, .inl (.of (sK10 _ _ er)), ((rv.length : Nat) : Int), rfl, by omega, by omega, ?_⟩
          rw [Int.toNat_natCast, hlv]
          refine comp_walk (K := K) walk_range (fun (i : Nat) => (outs[i]?).bind fun o => if (!isOut o y) = true then some (PyData.int (i : Int)) else none) (fun _ _ => trivial) (fun D j x H11 H12 nD hj acc hyj => ?_) fun D H11 acc => ?_
          · obtain ⟨rfl, rfl⟩ := hyj
            have ho : outs[j]? = some outs[j] := List.getElem?_eq_getElem hj
            obtain ⟨vj, hvj, hdj⟩ := hrv.getD (i := j) (d := outD outs[j]) (by rw [List.getElem?_map, ho]; rfl)
            have sA := sK10.trans acc.1
            obtain ⟨b7, rfl, hs7⟩ := outs_tup (hdj.same sA)
            have e0 : (0 : Int) + (j : Int) = ((j : Nat) : Int) := by omega
            simp only [e0]
            refine ⟨rfl, _, rfl, _, rfl, _, rfl, lr, rv, _, _, rfl, rfl, .of (sA _ _ er), atI_nat hvj, b7, _, rfl, .inr hs7, rfl, flat_strs _, _, rfl, ?_⟩
            rw [if_pos rfl, inV_str]
            cases c : isOut outs[j] y with
            | false => exact iteT ⟨_, rfl, acc.pushN (d := PyData.int (j : Int)) (by rw [ho]; show (if _ then _ else _) = _; rw [c]; rfl) rfl (.int _) (small1000 (by omega))⟩
            | true => exact iteF (acc.skip (by rw [ho]; show (if _ then _ else _) = _; rw [c]; rfl))
          · obtain ⟨items, eD, hI⟩ := acc.list
            rw [keys_fm] at hI
            have ei := ints_nat hI
            subst ei
            have T11 := T10.same acc.1
            have it11 : Item K H D1 D2 H11 (.ref D) (keyD outs y) := T10.lst acc.1 acc.2.1 eD (fun G => DpAll.ofInts (fun (k : Nat) => (k : Int)) _) (by rw [List.length_map]; have := keysL_len outs y; omega)
            obtain ⟨acc2, q2, z2, T12⟩ := T11.push2 it11.1 (small1000 (by omega))
            refine ⟨D2, acc2, _, rfl, rfl, q2, z2, _, rfl, ?_, ?_⟩
            · rw [etk, ← List.append_assoc]
              exact T12
            · rw [upd_ne hll2]
              exact acc.1 _ _ eL10
        · subst eσ
          rw [List.length_map, List.take_length] at Tw
          have TA : Two K H D1 D2 (tellA t outs) (tellA t outs) H' := Tw
          have sK := TA.1
          have lenA : (tellA t outs).length = 3 + t.size := by
            unfold tellA
            rw [List.length_append, List.length_map, t.len_leaves]
            rfl
          refine ⟨_, rfl, lr, _, rfl, .inl (.of (sK _ _ er)), ((rv.length : Nat) : Int), rfl, by omega, by omega, ?_⟩
          refine for_range (n := ((rv.length : Nat) : Int).toNat) (fun i σ' H' => ∃ xv kv, σ' = [some vt, some (.int cap), some (.ref p), some (.ref lr), some (.ref D1), some (.ref D2), xv, kv, none, none] ∧ Two K H D1 D2 (tellA t outs ++ (List.range i).map (whoD t outs)) (tellA t outs ++ (List.range i).map (whoD t outs)) H')
            ⟨xv, none, rfl, by rw [List.range_zero, List.map_nil, List.append_nil]; exact TA⟩ (fun i σ' H' hi ⟨xv, kv, eσ, Tw⟩ => ?_) (fun σ' H' ⟨xv, kv, eσ, Tw⟩ => ?_)
          · subst eσ
            rw [Int.toNat_natCast, hlv] at hi
            have sK := Tw.1
            have ldn : (tellA t outs ++ (List.range i).map (whoD t outs)).length = 3 + t.size + i := by rw [List.length_append, List.length_map, List.length_range, lenA]
            have etk : (List.range (i + 1)).map (whoD t outs) = (List.range i).map (whoD t outs) ++ [whoD t outs i] := by rw [List.range_succ, List.map_append]; rfl
            have e0 : (0 : Int) + (i : Int) = ((i : Nat) : Int) := by omega
            obtain ⟨a1, hD1⟩ : ∃ a1, H' D1 = some (.lst a1) := by
              obtain ⟨_, _, _, _, a1, a2, q1, q2, _⟩ := Tw
              exact ⟨a1, q1⟩
            have ho : outs[i]? = some outs[i] := List.getElem?_eq_getElem hi
            have hgD : outs.getD i [] = outs[i] := by rw [List.getD_eq_getElem?_getD, ho]; rfl
            obtain ⟨vj, hvj, hdj⟩ := hrv.getD (i := i) (d := outD outs[i]) (by rw [List.getElem?_map, ho]; rfl)
            simp only [e0]
            refine ⟨_, rfl, .inl ⟨rfl, _, .of hD1⟩, _, rfl, p, dx, _, rfl, slt_same sK h1, _, rfl, rfl, p, lo, ld, t, cap, outs, deeds, ((i : Nat) : Int), rfl, hs.same sK, fun hn => absurd ⟨by omega, by omega⟩ hn, fun k ek hk H9 v9 s9 d9 => ?_⟩
            have eki : k = i := by omega
            subst eki
            have T9 := Tw.same s9
            obtain ⟨acc1, q1, z1, T10⟩ := T9.push1 (T9.item (noL_out _) d9) (small1000 (by omega))
            refine ⟨D1, acc1, _, rfl, rfl, q1, z1, ?_⟩
            generalize upd H9 D1 (.lst (acc1 ++ [v9])) = H10 at T10 ⊢
            have sK10 := T10.1
            obtain ⟨a2, hD2⟩ : ∃ a2, H10 D2 = some (.lst a2) := by
              obtain ⟨_, _, _, _, a1, a2, q1, q2, _⟩ := T10
              exact ⟨a2, q2⟩
            refine ⟨_, rfl, .inl ⟨rfl, _, .of hD2⟩, _, rfl, _, rfl, _, rfl, lr, rv, _, _, rfl, rfl, .of (sK10 _ _ er), atI_nat hvj, vt, vj, t, outs[k], rfl, ht.same sK10, ok, hdj.same sK10, fun H11 v11 s11 d11 => ?_⟩
            have T11 := T10.same s11
            have d11' : Dp K H11 v11 (whoD t outs k) := by unfold whoD; rw [hgD]; exact d11
            obtain ⟨acc2, q2, z2, T12⟩ := T11.push2 (T11.flatL (noL_out _) d11') (small1000 (by omega))
            refine ⟨D2, acc2, _, rfl, rfl, q2, z2, _, _, rfl, ?_⟩
            rw [etk, ← List.append_assoc]
            exact T12
          · subst eσ
            rw [Int.toNat_natCast, hlv] at Tw
            have TB : Two K H D1 D2 (tellB t outs) (tellB t outs) H' := Tw
            have sK := TB.1
            have lenB : (tellB t outs).length = 3 + t.size + outs.length := by
              unfold tellB
              rw [List.length_append, lenA, List.length_map, List.length_range]
            refine ⟨by show 0 ≤ sizeLine; decide, fun lf nlf => ?_⟩
            have lf1 : lf ≠ D1 := fun z => by obtain ⟨_, _, _, _, a1, a2, q1, q2, _⟩ := TB; rw [z, q1] at nlf; cases nlf
            have lf2 : lf ≠ D2 := fun z => by obtain ⟨_, _, _, _, a1, a2, q1, q2, _⟩ := TB; rw [z, q2] at nlf; cases nlf
            have TB2 := TB.same (same_new (o := .lst []) nlf)
            have elf : upd H' lf (.lst []) lf = some (.lst []) := upd_same
            generalize upd H' lf (.lst []) = H8b at TB2 elf ⊢
            have sK2 := TB2.1
            refine ⟨_, rfl, _, rfl, _, rfl, _, _, -1, _, rfl, rfl, .of (sK2 _ _ er), hat, vt, vl, t, lastO outs, rfl, ht.same sK2, ok, hvl.same sK2, fun H9 v9 s9 d9 => ?_⟩
            obtain ⟨b9, rfl, hb9⟩ := outs_tup d9
            have TB3 := TB2.same s9
            have elf9 := s9 _ _ elf
            obtain ⟨o1, hD1⟩ : ∃ o, H9 D1 = some o := by obtain ⟨_, _, _, _, a1, a2, q1, q2, _⟩ := TB3; exact ⟨_, q1⟩
            obtain ⟨o2, hD2⟩ : ∃ o, H9 D2 = some o := by obtain ⟨_, _, _, _, a1, a2, q1, q2, _⟩ := TB3; exact ⟨_, q2⟩
            have hrl : (restL t (lastO outs)).length ≤ 100 := Nat.le_trans (restL_len t _) hsz
            refine ⟨b9, rfl, .inr ⟨⟨_, hb9⟩, ?_⟩⟩
            refine for_it walk_tup (fun i σ' H' => ∃ xv kv lf, σ' = [some vt, some (.int cap), some (.ref p), some (.ref lr), some (.ref D1), some (.ref D2), xv, kv, some (.ref lf), none] ∧ Same H9 H' ∧ H' lf = some (.lst ((((restL t (lastO outs)).take i).filter fun x => decide ((cnt t (sortS (lastO outs ++ [x])) : Int) ≤ cap)).map V.str)) ∧ lf ≠ D1 ∧ lf ≠ D2)
              ⟨xv, kv, lf, rfl, .refl _, by rw [List.take_zero]; exact elf9, lf1, lf2⟩ (fun i σ' H' _ ⟨_, _, _, _, q, _⟩ => same_tup q hb9) (fun i x σ' H' H'' hi ⟨xv, kv, lf, eσ, sL, eL, _, _⟩ hx => ?_) (fun σ' H' ⟨xv, kv, lf, eσ, sL, eL, lf1, lf2⟩ => ?_)
            · subst eσ
              obtain ⟨rfl, hx⟩ := hx
              rw [List.length_map] at hi
              rw [List.getElem?_map] at hx
              obtain ⟨y, hy, rfl⟩ := Option.map_eq_some_iff.mp hx
              have hyr : y ∈ restL t (lastO outs) := List.mem_of_getElem? hy
              have hyo : y ∉ lastO outs := fun z => by
                have q := (List.mem_filter.mp hyr).2
                rw [isOut_true z] at q
                cases q
              have etk : (restL t (lastO outs)).take (i + 1) = (restL t (lastO outs)).take i ++ [y] := by rw [List.take_add_one, hy]; rfl
              have sK9 := TB3.1.trans sL
              refine ⟨_, rfl, _, rfl, by show 1 ≤ sizeLine; decide, fun q nq => ?_⟩
              have s10 := same_new (o := .lst [.str y]) nq
              have e10 : upd H'' q (.lst [.str y]) q = some (.lst [.str y]) := upd_same
              generalize upd H'' q (.lst [.str y]) = H10 at s10 e10 ⊢
              have sK10 := sK9.trans s10
              refine ⟨_, rfl, _, rfl, _, rfl, _, _, -1, _, rfl, rfl, .of (sK10 _ _ er), hat, _, rfl, by show 1 ≤ sizeLine; decide, fun q2 nq2 => ?_⟩
              have s11 := same_new (o := .lst [.str y]) nq2
              have e11 : upd H10 q2 (.lst [.str y]) q2 = some (.lst [.str y]) := upd_same
              generalize upd H10 q2 (.lst [.str y]) = H11 at s11 e11 ⊢
              have sK11 := sK10.trans s11
              refine ⟨vl, q2, lastO outs, y, rfl, hvl.same sK11, e11, by omega, hnd, hyo, fun H12 v12 s12b d12 => ?_⟩
              have sK12 := sK11.trans s12b
              have lpo : (sortS (lastO outs ++ [y])).length ≤ 1000 := by rw [sortS_len, List.length_append]; simp; omega
              refine ⟨vt, v12, t, sortS (lastO outs ++ [y]), rfl, .of (ht.same sK12) ok, .of d12 lpo, fun H13 v13 s13b d13 => ?_⟩
              obtain ⟨b13, xs13, rfl, hb13, hx13⟩ := d13.tupI
              refine ⟨b13, xs13, rfl, .inr hb13, ?_⟩
              rw [show xs13.length = cnt t (sortS (lastO outs ++ [y])) from hx13.len]
              refine ⟨_, rfl, _, _, rfl, rfl, .inr ⟨_, rfl, ?_⟩⟩
              have sL13 := ((s10.trans s11).trans s12b).trans s13b
              have e13 := (s11.trans s12b).trans s13b _ _ e10
              have eL13 := sL13 _ _ eL
              by_cases c : ((cnt t (sortS (lastO outs ++ [y])) : Nat) : Int) ≤ cap
              · rw [decide_eq_true c, if_pos rfl]
                refine ⟨q, 1, _, rfl, rfl, e13, by omega, by omega, by have := sizeLine_eq; show 1 * 1 ≤ sizeLine; omega, fun r nr => ?_⟩
                have s14 := same_new (o := .lst (List.replicate (1 : Int).toNat [V.str y]).flatten) nr
                have e14 : upd H13 r (.lst (List.replicate (1 : Int).toNat [V.str y]).flatten) r = some (.lst [V.str y]) := upd_same
                generalize upd H13 r (.lst (List.replicate (1 : Int).toNat [V.str y]).flatten) = H14 at s14 e14 ⊢
                refine ⟨lf, r, _, _, rfl, rfl, s14 _ _ eL13, e14, ?_, fun z nz => ⟨_, _, z, rfl, (sL.trans sL13).trans (s14.trans (same_new nz)), ?_, fun e => (by rw [e, s14 _ _ (sL13 _ _ (sL _ _ hD1))] at nz; cases nz), fun e => (by rw [e, s14 _ _ (sL13 _ _ (sL _ _ hD2))] at nz; cases nz)⟩⟩
                · have := sizeLine_eq
                  have hf := List.length_filter_le (fun x => decide ((cnt t (sortS (lastO outs ++ [x])) : Int) ≤ cap)) ((restL t (lastO outs)).take i)
                  rw [List.length_take] at hf
                  rw [List.length_map]
                  simp
                  omega
                · rw [upd_same, etk, List.filter_append, List.map_append]
                  simp [List.filter, c]
              · rw [decide_eq_false c, if_neg Bool.false_ne_true]
                refine ⟨q, 0, _, rfl, rfl, e13, by omega, by omega, by have := sizeLine_eq; show 1 * 0 ≤ sizeLine; omega, fun r nr => ?_⟩
                have s14 := same_new (o := .lst (List.replicate (0 : Int).toNat [V.str y]).flatten) nr
                have e14 : upd H13 r (.lst (List.replicate (0 : Int).toNat [V.str y]).flatten) r = some (.lst []) := upd_same
                generalize upd H13 r (.lst (List.replicate (0 : Int).toNat [V.str y]).flatten) = H14 at s14 e14 ⊢
                refine ⟨lf, r, _, _, rfl, rfl, s14 _ _ eL13, e14, ?_, fun z nz => ⟨_, _, z, rfl, (sL.trans sL13).trans (s14.trans (same_new nz)), ?_, fun e => (by rw [e, s14 _ _ (sL13 _ _ (sL _ _ hD1))] at nz; cases nz), fun e => (by rw [e, s14 _ _ (sL13 _ _ (sL _ _ hD2))] at nz; cases nz)⟩⟩
                · have := sizeLine_eq
                  have hf := List.length_filter_le (fun x => decide ((cnt t (sortS (lastO outs ++ [x])) : Int) ≤ cap)) ((restL t (lastO outs)).take i)
                  rw [List.length_take] at hf
                  rw [List.length_map]
                  simp
                  omega
                · rw [upd_same, etk, List.filter_append, List.map_append]
                  simp [List.filter, c]
            · subst eσ
              rw [List.length_map, List.take_length] at eL
              have TB4 := TB3.same sL
              have sK4 := TB4.1
              obtain ⟨a1, hD1'⟩ : ∃ a1, H' D1 = some (.lst a1) := by
                obtain ⟨_, _, _, _, a1, a2, q1, q2, _⟩ := TB4
                exact ⟨a1, q1⟩
              refine ⟨_, rfl, .inl ⟨rfl, _, .of hD1'⟩, _, rfl, p, dx, _, rfl, slt_same sK4 h1, p, lo, ld, t, cap, outs, deeds, rfl, hs.same sK4, fun H10 l10 s10 nl10 e10 => ?_⟩
              have hrm : (roomL t cap (lastO outs)).length ≤ 100 := Nat.le_trans (roomL_len t cap _) hsz
              obtain ⟨acc1, q1, z1, T11⟩ := (TB4.same s10).push1 (TB4.lst s10 nl10 e10 (fun G => DpAll.ofStrs _) (by rw [List.length_map]; omega)) (small1000 (by omega))
              refine ⟨D1, acc1, _, rfl, rfl, q1, z1, ?_⟩
              have elf11 : upd H10 D1 (.lst (acc1 ++ [.ref l10])) lf = some (.lst ((roomL t cap (lastO outs)).map V.str)) := by rw [upd_ne lf1]; exact s10 _ _ eL
              generalize upd H10 D1 (.lst (acc1 ++ [.ref l10])) = H11 at T11 elf11 ⊢
              have T11 : Two K H D1 D2 (tellD t cap outs) (tellB t outs) H11 := T11
              have ⟨sK11, nD1H, nD2H, neD, b1, b2, eb1, eb2, i1, i2⟩ := id T11
              refine ⟨_, rfl, _, rfl, _, rfl, by show 1 ≤ sizeLine; decide, fun q nq => ?_⟩
              have s12 := same_new (o := .lst [.ref lf]) nq
              have e12 : upd H11 q (.lst [.ref lf]) q = some (.lst [.ref lf]) := upd_same
              generalize upd H11 q (.lst [.ref lf]) = H12 at s12 e12 ⊢
              have lb2 : b2.length ≤ 200 := by rw [i2.len, lenB]; omega
              refine ⟨D2, q, b2, _, rfl, rfl, s12 _ _ eb2, e12, by have := sizeLine_eq; simp; omega, fun z nz => ?_⟩
              have s13 := same_new (o := .lst (b2 ++ [.ref lf])) nz
              have e13 : upd H12 z (.lst (b2 ++ [.ref lf])) z = some (.lst (b2 ++ [.ref lf])) := upd_same
              generalize upd H12 z (.lst (b2 ++ [.ref lf])) = H13 at s13 e13 ⊢
              have s113 := s12.trans s13
              refine ⟨.ref D1, .ref z, .list (tellD t cap outs), rfl, .lstM (s113 _ _ eb1) ((items_dp i1).same s113), .lstM e13 (DpAll.app ((DpAll.same hide_same i2).same s113) (.one (.lstM (s113 _ _ elf11) (DpAll.ofStrs _)))), smD_tell hsz h60 (by omega), fun H14 s14 => ⟨_, rfl, ?_⟩⟩
              refine iteF ?_
              have s1114 := s113.trans s14
              have i14 := items_keep (Keep.of s1114 [D1, D2]) i1
              have eD14 := s1114 _ _ eb1
              have sK14 := sK11.trans s1114
              have lb1 : b1.length ≤ 200 := by rw [paired_len i1, tellD_len]; omega
              refine ⟨_, rfl, D1, rfl, ⟨_, .of eD14⟩, ?_⟩
              refine for_list (xs := b1) (fun i σ' H' => ∃ xv, σ' = [some vt, some (.int cap), some (.ref p), some (.ref lr), some (.ref D1), some (.ref D2), xv.1, xv.2.1, some (.ref lf), xv.2.2] ∧ Same H H' ∧ H' D1 = some (.lst b1) ∧ ∀ (j : Nat) (v : V) (d : PyData), b1[j]? = some v → (tellD t cap outs)[j]? = some d →
                  (isLD d = false → noL d = true ∧ Dp K H' v d) ∧ (isLD d = true → ∃ a xs, v = .ref a ∧ H' a = some (.lst xs) ∧ H a = none ∧ a ≠ D1 ∧ xs.length ≤ 1000 + i))
                ⟨(_, _, _), rfl, sK14, eD14, fun j v d hv hd => ?_⟩ (fun i σ' H' _ ⟨_, _, _, q, _⟩ => .of q) (fun i x σ' H' hx ⟨xv, eσ, sH, eD, inv⟩ => ?_) (fun σ' H' ⟨xv, eσ, sH, eD, inv⟩ => ?_)
              · obtain ⟨d', hd', it⟩ := paired_get i14 hv
                rw [hd] at hd'
                cases hd'
                refine ⟨fun e => ⟨tell_flat d (List.mem_of_getElem? hd) e, Dp.same hide_same it.1⟩, fun e => ?_⟩
                obtain ⟨a, xs, q1, q2, q3, q4, q5⟩ := it.2 e
                exact ⟨a, xs, q1, q2, q3, fun z => q4 (by rw [z]; simp), q5⟩
              · subst eσ
                have hib := (List.getElem?_eq_some_iff.mp hx).1
                obtain ⟨d, hd, _⟩ := paired_get i14 hx
                obtain ⟨f1, f2⟩ := inv i x d hx hd
                cases hl : isLD d with
                | false =>
                  obtain ⟨g1, g2⟩ := f1 hl
                  obtain ⟨ty, h1t, h2t⟩ := ty_dp g2
                  refine ⟨_, rfl, _, _, _, _, _, rfl, .ty "list", h2t, kit_L h1t, _, rfl, ?_⟩
                  rw [hl]
                  refine iteF ⟨(xv.1, xv.2.1, some x), rfl, sH, eD, fun j v d' hv hd' => ?_⟩
                  obtain ⟨k1, k2⟩ := inv j v d' hv hd'
                  refine ⟨k1, fun e => ?_⟩
                  obtain ⟨a, xs, r1, r2, r3, r4, r5⟩ := k2 e
                  exact ⟨a, xs, r1, r2, r3, r4, by omega⟩
                | true =>
                  obtain ⟨a, xs, rfl, ea, na, nD, hxs⟩ := f2 hl
                  have hty : tyD d = some "list" := by cases d <;> first | rfl | cases hl
                  refine ⟨_, rfl, _, _, _, _, _, rfl, .ty "list", ty_lst (.of ea), kit_L hty, _, rfl, ?_⟩
                  rw [hl]
                  refine iteT ⟨_, rfl, .inl ⟨rfl, _, .of ea⟩, a, xs, _, rfl, rfl, ea, by have := sizeLine_eq; omega, ?_⟩
                  have k9 : Keep [a] H' (upd H' a (.lst (xs ++ [.str "more"]))) := (Keep.of (.refl H') _).upd (.inl (by simp))
                  refine ⟨(xv.1, xv.2.1, some (.ref a)), rfl, fun b u z => ?_, ?_, fun j v d' hv hd' => ?_⟩
                  · rw [upd_ne (ne_of_none z na)]
                    exact sH b u z
                  · rw [upd_ne (Ne.symm nD)]
                    exact eD
                  · obtain ⟨k1, k2⟩ := inv j v d' hv hd'
                    refine ⟨fun e => ⟨(k1 e).1, Dp.keep k9 (Soft.one ea).noTup (k1 e).1 (k1 e).2⟩, fun e => ?_⟩
                    obtain ⟨a', xs', r1, r2, r3, r4, r5⟩ := k2 e
                    by_cases c : a' = a
                    · subst c
                      rw [ea] at r2
                      cases r2
                      exact ⟨a', _, r1, upd_same, r3, r4, by rw [List.length_append]; simp; omega⟩
                    · exact ⟨a', xs', r1, by rw [upd_ne c]; exact r2, r3, r4, by omega⟩
              · subst eσ
                exact hQ H' sH
end
end K90
end

section
set_option Elab.async false
set_option linter.all false
set_option maxRecDepth 100000
set_option maxHeartbeats 4000000
/-! [s] == [None] -/
namespace GQ
open PySem PySem.SeqAt
def HasI (h : Heap) (l : Addr) (i : Nat) : Prop := ∃ (it : Array Value) (n : Nat) (x : Value), h.get? l = some { cls := .type "list", data := .seq it n } ∧ it[i]? = some x
open AutoSeq1 (wpAny_loadPart')
open MeetsSeq MeetsSeq2 MeetsSeq3 SeqRoads2
section
variable {prog : Program} {w : World} {A : Around} {R : Result → Shared → Prop}
theorem eq_loop1 {l b : Addr} {i : Nat} {items items2 : Array Value} {x y : Value} {n n2 : Nat} {s : Shared} (hl1 : s.heap.get? l = some { cls := .type "list", data := .seq items n }) (hb1 : s.heap.get? b = some { cls := .type "list", data := .seq items2 n2 })
    (hx : items[i]? = some x) (hy : items2[i]? = some y)
    (ht : wpAny (model prog w) A.in1 (eqBool x y) (fun r s' => r = false ∧ HasI s'.heap l i ∧ HasI s'.heap b i ∧ R (.ok (.ret (.bool false))) s') (fun e s' => R (.error e) s') s) :
    wpAny (model prog w) A.in1 (Builtin.«list.__eq__.loop» ⟨[.ref l, .ref b, rawInt i, rawInt 2], []⟩) (FinOf prog w A R) (fun e s' => R (.error e) s') s := by
  obtain ⟨hp, g, d, tk, os⟩ := s
  wp_walk using wpAny_loadPart' hl1, wpAny_loadPart' hb1
  have hi1 : items[((i : Nat) : Int).toNat]? = some x := by simpa using hx
  have hi2 : items2[((i : Nat) : Int).toNat]? = some y := by simpa using hy
  rw [hi1, hi2]
  refine wpAny_bind (wpAny_mono ht (fun r s2 h2 => ?_) fun _ _ x => x)
  obtain ⟨hr, ⟨it, m, x', hl2, gx⟩, ⟨it2, m2, y', hb2, gy⟩, h2⟩ := h2
  subst hr
  obtain ⟨hp2, g2, d2, tk2, os2⟩ := s2
  wp_walk using wpAny_loadPart' hl2, wpAny_loadPart' hb2
  have hi1 : it[((i : Nat) : Int).toNat]? = some x' := by simpa using gx
  have hi2 : it2[((i : Nat) : Int).toNat]? = some y' := by simpa using gy
  rw [hi1, hi2]
  wp_walk
  exact h2
theorem list_eq1 {l b : Addr} {items items2 : Array Value} {x y : Value} {n n2 : Nat} {s : Shared} (hl1 : s.heap.get? l = some { cls := .type "list", data := .seq items n }) (hb1 : s.heap.get? b = some { cls := .type "list", data := .seq items2 n2 }) (hsz : items.size = items2.size)
    (hx : items[0]? = some x) (hy : items2[0]? = some y)
    (ht : wpAny (model prog w) A.in1 (eqBool x y) (fun r s' => r = false ∧ HasI s'.heap l 0 ∧ HasI s'.heap b 0 ∧ R (.ok (.ret (.bool false))) s') (fun e s' => R (.error e) s') s) :
    wpAny (model prog w) A.in1 (Builtin.«list.__eq__» ⟨[.ref l, .ref b], []⟩) (FinOf prog w A R) (fun e s' => R (.error e) s') s := by
  have hrec := eq_loop1 (A := A) (R := R) (i := 0) hl1 hb1 hx hy ht
  obtain ⟨hp, g, d, tk, os⟩ := s
  have f3 := AutoSeq1.sub_list_list
  have hne : ¬ (items.size != items2.size) = true := by simp [hsz]
  wp_walk using wpAny_loadPart' hl1, wpAny_loadPart' hb1
  exact ⟨plainId_quiet plain_eq_loop _, codeAny_builtin entry_eq_loop (by
    rw [Around.under_plainId plain_eq_loop _]
    exact hrec)⟩
end
section
variable {prog : Program} {w : World} {A : Around} {E : Value → Shared → Prop} {s : Shared}
theorem rc_list1 {l b : Addr} {items items2 : Array Value} {x y : Value} {n n2 : Nat} {Q : Value → Shared → Prop} (hu : A.units < cLine) (hl1 : s.heap.get? l = some { cls := .type "list", data := .seq items n }) (hb1 : s.heap.get? b = some { cls := .type "list", data := .seq items2 n2 }) (hsz : items.size = items2.size)
    (hx : items[0]? = some x) (hy : items2[0]? = some y)
    (ht : wpAny (model prog w) A.in1 (eqBool x y) (fun r s' => r = false ∧ HasI s'.heap l 0 ∧ HasI s'.heap b 0 ∧ Q (.bool false) s') E s) : wpAny (model prog w) A (richCompare .Eq (.ref l) (.ref b)) Q E s := by
  refine wpAny_richCompare_same_room (op := .Eq) ⟨_, hl1, rfl⟩ ⟨_, hb1, rfl⟩ F.slot_list_eq (call_here F.slot_list_eq ⟨_, hl1, rfl⟩ F.entry_list_eq (F.args_list_eq_2 _ _) ?_) hu
  refine list_eq1 (R := wants (fun v s' => v ≠ .notImplemented ∧ Q v s') E) hl1 hb1 hsz hx hy (wpAny_mono ht (fun r s' q => ⟨q.1, q.2.1, q.2.2.1, (fun x => nomatch x), q.2.2.2⟩) fun _ _ x => x)
/-- == of an object and something that is no object -/
theorem eqBool_refV {l : Addr} {Q : Bool → Shared → Prop} (h : wpAny (model prog w) A (richCompare .Eq (.ref l) .none) (fun v s' => ∃ r, v = .bool r ∧ Q r s') E s) : wpAny (model prog w) A (eqBool (.ref l) .none) Q E s := by
  unfold eqBool
  refine wpAny_holding ?_
  refine wpAny_ite_split (fun hab => absurd (by have := eq_of_beq hab; injection this) (fun x : False => x)) (fun _ => ?_)
  refine wpAny_bind (wpAny_mono h (fun v s' hv => ?_) fun _ _ x => x)
  obtain ⟨r, rfl, q⟩ := hv
  exact wpAny_truthy_bool q
end
end GQ
namespace K90
open PySem PySem.Spec PyProof.Rows L2
/-- [s] == [None] -/
def rOneN (K : PySem.W.Frag) (C : Addr) (sp : Sp) (E : XK) : R2 := fun x y H Q => ∃ l b a dx vs, x = .ref l ∧ y = .ref b ∧ H l = some (.lst [.ref a]) ∧ H b = some (.lst [.non]) ∧ SlX.Slt H a C dx vs ∧ PySem.W.notFirst K C (.type "NoneType") = true ∧
  sp [.ref a, .non] H (fun z H' => z = .bl false ∧ H' l = some (.lst [.ref a]) ∧ H' b = some (.lst [.non]) ∧ Q (.bl false) H') E
theorem op_oneN {X : Cx} {C g : Addr} {sp : Sp} {E : XK} {CX : CXT} {n : Nat} (hs : PySem.W.findIn X.K (.ref C) "__eq__" = some (some (.ref g))) (hf : PySem.W.isFn X.K (.ref g) = true) (F : FnR X.prog X.w X.K X.mg X.base CX n g sp)
    (hr : Room (n + 1) X.A) (hx : ∀ (H : Hp) (s : Shared) (e : Value) (s' : Shared), CX X.stack H s E e s' → False) : OpR X (compareOp .Eq) (rOneN X.K C sp E) := by
  intro pins s σ H x y v u Q I rx ry h
  obtain ⟨l, b, a, dx, vs, rfl, rfl, hl, hb, ha, hn, q⟩ := h
  cases (show v = Value.ref l from rx)
  cases (show u = Value.ref b from ry)
  obtain ⟨_, its, k, r, e⟩ := I.hok l _ hl
  obtain ⟨_, its2, k2, r2, e2⟩ := I.hok b _ hb
  obtain ⟨ua, rfl, ra⟩ := r.one
  obtain ⟨ub, rfl, rb⟩ := r2.one
  obtain rfl : ua = Value.ref a := ra
  obtain rfl : ub = Value.none := rb
  obtain ⟨sl, od, _, J, _⟩ := SlX.slt_inst I ha
  obtain ⟨m, hF⟩ := I.fr
  show wpAny _ _ (richCompare .Eq _ _) _ _ _
  refine GQ.rc_list1 hr.units0 e e2 rfl rfl rfl (GQ.eqBool_refV ?_)
  refine PySem.W.cmp_K (op := .Eq) (tb := .type "NoneType") hr.in1.units0 hF I.ok.mod.kin J (looks_ty I (x := .non) (u := .none) rfl (.base .non)) hn hs hf ?_
  refine wpAny_call (codeAny_mono (F X.A.in1 X.stack s H [.ref a, .none] [.ref a, .non] _ E hr.in1 I.env0.in1 (.cons rfl (.cons rfl .nil)) q) fun r s' hq => ?_)
  cases r with
  | error e => exact (hx _ _ _ _ hq).elim
  | ok fl =>
    cases fl with
    | ret u' =>
      obtain ⟨v', H', I2, rv, ev, hl', hb', q2⟩ := I.after hq
      subst ev
      obtain rfl : u' = Value.bool false := rv
      refine ⟨false, rfl, rfl, ?_, ?_, .bl false, H', I2, rfl, q2⟩
      · obtain ⟨_, its, k, r, e⟩ := I2.hok l _ hl'
        obtain ⟨ua, rfl, ra⟩ := r.one
        exact ⟨_, k, ua, e, rfl⟩
      · obtain ⟨_, its, k, r, e⟩ := I2.hok b _ hb'
        obtain ⟨ua, rfl, ra⟩ := r.one
        exact ⟨_, k, ua, e, rfl⟩
    | next => exact False.elim hq
    | brk => exact False.elim hq
    | cont => exact False.elim hq
end K90
end

section
set_option Elab.async false
set_option linter.all false
set_option maxRecDepth 100000
set_option maxHeartbeats 4000000
/-! the law's known_right -/
namespace K90
open PySem PySem.Spec PyProof.Rows L2
structure SNe (K : PySem.W.Frag) : Prop where
  ne : PySem.W.findIn K (.ref (CS K)) "__ne__" = some (some (.builtin "object.__ne__"))
  me : PySem.W.notFirst K (CS K) (.ref (CS K)) = true
  tup : PySem.W.notFirst K (CS K) (.type "tuple") = true
  str : PySem.W.notFirst K (CS K) (.type "str") = true
  int : PySem.W.notFirst K (CS K) (.type "int") = true
  lst : PySem.W.notFirst K (CS K) (.type "list") = true
  non : PySem.W.notFirst K (CS K) (.type "NoneType") = true
  ktup : PySem.W.kitOne K (.type "tuple") (.ref (CS K)) = some false
  kstr : PySem.W.kitOne K (.type "str") (.ref (CS K)) = some false
  kint : PySem.W.kitOne K (.type "int") (.ref (CS K)) = some false
  klst : PySem.W.kitOne K (.type "list") (.ref (CS K)) = some false
  knon : PySem.W.kitOne K (.type "NoneType") (.ref (CS K)) = some false
  ob : PySem.W.mroIn K (CS K) (.type "object") = some true
section
variable {K : PySem.W.Frag} {mg : Str → Option Value}
theorem Txt.sne (T : Txt K mg) : SNe K := by
  have c : neB "Sender" K = true := T.ex (f := neB "Sender") (by simp [exs])
  obtain ⟨c1, c⟩ := He.ba c
  obtain ⟨c2, c⟩ := He.ba c
  obtain ⟨c3, c⟩ := He.ba c
  obtain ⟨c4, c⟩ := He.ba c
  obtain ⟨c5, c⟩ := He.ba c
  obtain ⟨c6, c7⟩ := He.ba c
  obtain ⟨d1, d⟩ := He.ba (T.scB (x := "Sender") (by decide +kernel))
  obtain ⟨d2, d⟩ := He.ba d
  obtain ⟨d3, d⟩ := He.ba d
  obtain ⟨d4, d⟩ := He.ba d
  obtain ⟨d5, d6⟩ := He.ba d
  exact ⟨He.eqO_ok c1, c2, c3, c4, c5, c6, c7, of_decide_eq_true (T.ex (f := ktyB "tuple" "Sender" false) (by simp [exs])), of_decide_eq_true (T.ex (f := ktyB "str" "Sender" false) (by simp [exs])), of_decide_eq_true (T.ex (f := ktyB "int" "Sender" false) (by simp [exs])),
    of_decide_eq_true (T.ex (f := ktyB "list" "Sender" false) (by simp [exs])), of_decide_eq_true (T.ex (f := ktyB "NoneType" "Sender" false) (by simp [exs])), of_decide_eq_true d6⟩
end
section
variable {K : PySem.W.Frag} {H0 H H' : Hp} {p lo ld : Addr} {t : T} {cap : Int} {outs : List (List Str)} {deeds : List (Str × Str)} {x : Str} {Q : VK} {E : XK}
theorem lock_ok (hs : SAt K H p lo ld t cap outs deeds) (hl : outs.length < 60) (hx : x ∈ t.leaves) (ho : x ∉ lastO outs) (hc : (cnt t (lockO outs x) : Int) ≤ cap)
    (hQ : ∀ H', Keep [lo, ld] H H' → SAt K H' p lo ld t cap (outs ++ [lockO outs x]) (deeds ++ [(("lock", x) : Str × Str)]) → Q (.int (deeds.length + 1 : Nat)) H') : spLock K [.ref p, .str x] H Q E :=
  ⟨p, lo, ld, t, cap, outs, deeds, x, rfl, hs, hl, fun h => absurd hx h, fun _ => ⟨fun h => absurd h ho, fun _ => ⟨fun h => absurd hc (by omega), fun _ => hQ⟩⟩⟩
theorem let_ok (hs : SAt K H p lo ld t cap outs deeds) (hl : outs.length < 60) (hx : x ∈ t.leaves) (ho : x ∈ lastO outs) (hc : (cnt t (letO outs x) : Int) ≤ cap)
    (hQ : ∀ H', Keep [lo, ld] H H' → SAt K H' p lo ld t cap (outs ++ [letO outs x]) (deeds ++ [(("let", x) : Str × Str)]) → Q (.int (deeds.length + 1 : Nat)) H') : spLet K [.ref p, .str x] H Q E :=
  ⟨p, lo, ld, t, cap, outs, deeds, x, rfl, hs, hl, fun h => absurd hx h, fun _ => ⟨fun h => absurd ho h, fun _ => ⟨fun h => absurd hc (by omega), fun _ => hQ⟩⟩⟩
theorem undo_ok (hs : SAt K H p lo ld t cap outs deeds) (hl : outs.length ≠ 1) (hQ : ∀ H', Keep [lo, ld] H H' → SAt K H' p lo ld t cap outs.dropLast deeds.dropLast → Q .non H') : spUndo K [.ref p] H Q E :=
  ⟨p, lo, ld, t, cap, outs, deeds, rfl, hs, fun h => absurd h hl, fun _ => hQ⟩
theorem SAt.lists (h : SAt K H p lo ld t cap outs deeds) : (∃ vs, H lo = some (.lst vs)) ∧ ∃ ws, H ld = some (.lst ws) := by
  obtain ⟨dx, tv, vs, ws, h1, h2, h3, h4, h5, h6, h7⟩ := h
  exact ⟨⟨vs, h3⟩, ws, h5⟩
theorem SAt.soft (h : SAt K H p lo ld t cap outs deeds) : Soft H [lo, ld] := by
  obtain ⟨⟨vs, h1⟩, ws, h2⟩ := h.lists
  exact soft_ll h1 h2
theorem same_keep {l : List Addr} (s : Same H0 H) (k : Keep l H H') (n : ∀ a ∈ l, H0 a = none) : Same H0 H' := fun b o e => k b o (s b o e) fun m => by rw [n b m] at e; cases e
theorem SAt.ne (h : SAt K H p lo ld t cap outs deeds) {a : Addr} (n : H a = none) : a ≠ lo ∧ a ≠ ld := by
  obtain ⟨⟨vs, h1⟩, ws, h2⟩ := h.lists
  exact ⟨fun z => (by rw [z, h1] at n; cases n), fun z => (by rw [z, h2] at n; cases n)⟩
end
def T0 : T := .node (.leaf "a") (.node (.leaf "b") (.leaf "c"))
theorem okX0 : okX T0 := by
  intro x hx
  have : (T0.leaves.all fun x => PyData.strOk x) = true := by decide +kernel
  exact List.all_eq_true.mp this x hx
theorem ok0 : okT T0 := ⟨by decide, by decide⟩
theorem cnt0 (o : List Str) (h : o = [("a" : Str)] ∨ o = [("b" : Str)] ∨ o = [("a" : Str), "b"]) : (cnt T0 o : Int) ≤ 16 := by
  rcases h with rfl | rfl | rfl
  · rw [cnt_eq]; decide +kernel
  · rw [cnt_eq]; decide +kernel
  · rw [cnt_eq]; decide +kernel
def spKnown (K : PySem.W.Frag) : Sp := fun vs H Q _ => vs = [] ∧ ∀ H', Same H H' → Q (.bl true) H'
section
variable {w : World} {K : PySem.W.Frag} {mg : Str → Option Value} {base : Heap}
theorem sEqK (T : Txt K mg) {X : Cx} {n : Nat} (ep : X.prog = prg) (ew : X.w = w) (e : X.K = K) (em : X.mg = mg) (eb : X.base = base) (hr : Room 2 X.A) : OpR X (compareOp .Eq) (rOwnY K (CS K) (spSEq K) EF false) := by
  subst e em eb ew
  have F := ok_S_eq (w := X.w) (base := X.base) T
  have F' : FnR X.prog X.w X.K X.mg X.base CX0 2 (He.fAd X.K ("Sender", some "__eq__")) (spSEq X.K) := by rw [ep]; exact F
  exact op_eqY (T.meth (x := "Sender") (m := "__eq__")).at_ (T.meth (x := "Sender") (m := "__eq__")).fn F' hr pass0
theorem sNeK (T : Txt K mg) {X : Cx} (ep : X.prog = prg) (ew : X.w = w) (e : X.K = K) (em : X.mg = mg) (eb : X.base = base) (hr : Room 3 X.A) : OpR X (compareOp .NotEq) (rOwnY K (CS K) (spSEq K) EF true) := by
  subst e em eb ew
  have F := ok_S_eq (w := X.w) (base := X.base) T
  have F' : FnR X.prog X.w X.K X.mg X.base CX0 2 (He.fAd X.K ("Sender", some "__eq__")) (spSEq X.K) := by rw [ep]; exact F
  exact op_neY (T.meth (x := "Sender") (m := "__eq__")).at_ (T.meth (x := "Sender") (m := "__eq__")).fn T.sne.ne T.sne.ob F' hr fun _ _ _ _ h => h.elim
theorem sOneK (T : Txt K mg) {X : Cx} (ep : X.prog = prg) (ew : X.w = w) (e : X.K = K) (em : X.mg = mg) (eb : X.base = base) (hr : Room 3 X.A) : OpR X (compareOp .Eq) (rOneN K (CS K) (spSEq K) EF) := by
  subst e em eb ew
  have F := ok_S_eq (w := X.w) (base := X.base) T
  have F' : FnR X.prog X.w X.K X.mg X.base CX0 2 (He.fAd X.K ("Sender", some "__eq__")) (spSEq X.K) := by rw [ep]; exact F
  exact op_oneN (T.meth (x := "Sender") (m := "__eq__")).at_ (T.meth (x := "Sender") (m := "__eq__")).fn F' hr fun _ _ _ _ h => h.elim
theorem ok_L_known (T : Txt K mg) : FnX w K mg base CX0 33 ("_law_known_right", none) (spKnown K) := by
  obtain ⟨fdI, SIi⟩ := ok_S_init (w := w) (base := base) T
  obtain ⟨dsI, vI, bI⟩ := SIi.b2
  have FL := ok_S_lock (w := w) (base := base) T
  have FT := ok_S_let (w := w) (base := base) T
  have FU := ok_S_undo (w := w) (base := base) T
  have FO := ok_S_out (w := w) (base := base) T
  have FTw := ok_S_twin (w := w) (base := base) T
  refine fnr (ps := []) (T.fn 50) sc_L_known_right ?ln ?bd (fun _ _ _ _ _ _ us hl => match us, hl with | [], _ => rfl)
  case ln =>
    rintro _ _ _ _ ⟨rfl, _⟩
    rfl
  case bd =>
    intro cdv A outer s H vs Q E hr h
    apply bodyN
    case h =>
      apply pss_cons
      · exact ps_set (i := 0) sc_L_known_right.nd rfl (.inl rfl) (pe_tup (pa_cons pe_str (pa_cons (pe_tup (pa_cons pe_str (pa_cons pe_str pa_nil))) pa_nil)))
      apply pss_cons
      · exact ps_par (i := 1) (j := 2) (by rfl) sc_L_known_right.nd rfl rfl (by decide) rfl rfl (pa_cons (pe_make (T.mkr (x := "Sender")) SIi.ok (hr.mono (by decide)) (by rfl) T.glo bI vI pass0 (pa_cons (pv 0) pa_nil)) (pa_cons (pe_make (T.mkr (x := "Sender")) SIi.ok (hr.mono (by decide)) (by rfl) T.glo bI vI pass0 (pa_cons (pv 0) pa_nil)) pa_nil)) (by rfl)
      apply pss_cons
      · exact ps_set (i := 3) sc_L_known_right.nd rfl (.inl rfl) (pe_lst (pa_cons (SlX.pe_methSl (pv 1) (T.scls (x := "Sender")) (T.meth (x := "Sender") (m := "lock")) FL (hr.mono (by decide)) pF (pa_cons pe_str pa_nil)) (pa_cons (SlX.pe_methSl (pv 1) (T.scls (x := "Sender")) (T.meth (x := "Sender") (m := "lock")) FL (hr.mono (by decide)) pF (pa_cons pe_str pa_nil))
          (pa_cons (SlX.pe_methSl (pv 2) (T.scls (x := "Sender")) (T.meth (x := "Sender") (m := "lock")) FL (hr.mono (by decide)) pF (pa_cons pe_str pa_nil)) (pa_cons (SlX.pe_methSl (pv 2) (T.scls (x := "Sender")) (T.meth (x := "Sender") (m := "lock")) FL (hr.mono (by decide)) pF (pa_cons pe_str pa_nil)) pa_nil)))))
      apply pss_cons
      · exact ps_set (i := 4) sc_L_known_right.nd rfl (.inr rfl) (SlX.pe_methSl0 (pv 1) (T.scls (x := "Sender")) (T.meth (x := "Sender") (m := "twin")) FTw (hr.mono (by decide)) pass0)
      apply pss_cons
      · exact ps_if (PW.pt (pw_or (pt_cmpR (op_neD hr.units) (pv 3) (pe_lst (pa_cons pe_int (pa_cons pe_int (pa_cons pe_int (pa_cons pe_int pa_nil))))) (nomark _))
          (pw_or (pt_cmpR (sEqK (n := 0) T rfl rfl rfl rfl rfl (hr.mono (by decide))) (pv 1) (pv 2) (nomark _)) (pw_or (pt_cmpR (sOneK T rfl rfl rfl rfl rfl (hr.mono (by decide))) (pe_lst (pa_cons (pv 1) pa_nil)) (pe_lst (pa_cons pe_non pa_nil)) (nomark _))
            (pw_or1 (pt_cmpR (sNeK T rfl rfl rfl rfl rfl (hr.mono (by decide))) (pv 4) (pv 1) (nomark _))))))) (pss_one (ps_ret pe_bl)) pss_nil
      apply pss_cons
      · exact ps_expr (SlX.pe_methSl0 (pv 4) (T.scls (x := "Sender")) (T.meth (x := "Sender") (m := "undo")) FU (hr.mono (by decide)) pF)
      apply pss_cons
      · exact ps_if (PW.pt (pw_or (pt_cmpR (sEqK (n := 0) T rfl rfl rfl rfl rfl (hr.mono (by decide))) (pv 4) (pv 1) (nomark _)) (pw_or (pt_cmpR (op_neD hr.units) (SlX.pe_methSl0 (pv 4) (T.scls (x := "Sender")) (T.meth (x := "Sender") (m := "out")) FO (hr.mono (by decide)) pass0) (pe_tup (pa_cons pe_str pa_nil)) (nomark _))
          (pw_or1 (pt_cmpR (op_neD hr.units) (SlX.pe_methSl0 (pv 1) (T.scls (x := "Sender")) (T.meth (x := "Sender") (m := "out")) FO (hr.mono (by decide)) pass0) (pe_tup (pa_cons pe_str (pa_cons pe_str pa_nil))) (nomark _)))))) (pss_one (ps_ret pe_bl)) pss_nil
      apply pss_cons
      · exact ps_expr (SlX.pe_methSl0 (pv 4) (T.scls (x := "Sender")) (T.meth (x := "Sender") (m := "undo")) FU (hr.mono (by decide)) pF)
      apply pss_cons
      · exact ps_if (PW.pt (pw_or (pt_cmpR (sNeK T rfl rfl rfl rfl rfl (hr.mono (by decide))) (pv 4) (pe_make (T.mkr (x := "Sender")) SIi.ok (hr.mono (by decide)) (by rfl) T.glo bI vI pass0 (pa_cons (pv 0) pa_nil)) (nomark _))
          (pw_or (pt_cmpR (op_neD hr.units) (pe_lst (pa_cons (SlX.pe_methSl (pv 4) (T.scls (x := "Sender")) (T.meth (x := "Sender") (m := "lock")) FL (hr.mono (by decide)) pF (pa_cons pe_str pa_nil)) (pa_cons (SlX.pe_methSl (pv 4) (T.scls (x := "Sender")) (T.meth (x := "Sender") (m := "lock")) FL (hr.mono (by decide)) pF (pa_cons pe_str pa_nil)) pa_nil))) (pe_lst (pa_cons pe_int (pa_cons pe_int pa_nil))) (nomark _))
            (pw_or1 (pt_cmpR (sNeK T rfl rfl rfl rfl rfl (hr.mono (by decide))) (pv 4) (pv 2) (nomark _)))))) (pss_one (ps_ret pe_bl)) pss_nil
      apply pss_cons
      · exact ps_if (PW.pt (pw_or (pt_cmpR (op_neD hr.units) (pe_lst (pa_cons (SlX.pe_methSl (pv 4) (T.scls (x := "Sender")) (T.meth (x := "Sender") (m := "let")) FT (hr.mono (by decide)) pF (pa_cons pe_str pa_nil)) (pa_cons (SlX.pe_methSl (pv 4) (T.scls (x := "Sender")) (T.meth (x := "Sender") (m := "lock")) FL (hr.mono (by decide)) pF (pa_cons pe_str pa_nil)) pa_nil))) (pe_lst (pa_cons pe_int (pa_cons pe_int pa_nil))) (nomark _))
          (pw_or (pt_cmpR (sEqK (n := 0) T rfl rfl rfl rfl rfl (hr.mono (by decide))) (pv 4) (pv 2) (nomark _))
            (pw_or1 (pt_cmpR (op_neD hr.units) (SlX.pe_methSl0 (pv 4) (T.scls (x := "Sender")) (T.meth (x := "Sender") (m := "out")) FO (hr.mono (by decide)) pass0) (SlX.pe_methSl0 (pv 2) (T.scls (x := "Sender")) (T.meth (x := "Sender") (m := "out")) FO (hr.mono (by decide)) pass0) (nomark _)))))) (pss_one (ps_ret pe_bl)) pss_nil
      · exact pss_one (ps_ret (pe_cmpR (op_eqD hr.units) (pe_lcR (own := [("_law_own", 5)]) (g := gName 5) (by rfl) sc_L_known_right.nd (pi_seq (pe_tup (pa_cons (pe_tup pa_nil) (pa_cons pe_str (pa_cons pe_int (pa_cons (SlX.pe_methSl0 (pv 4) (T.scls (x := "Sender")) (T.meth (x := "Sender") (m := "out")) FO (hr.mono (by decide)) pass0) (pa_cons (pe_lst (pa_cons (pv 4) pa_nil)) pa_nil))))))) (blkOk_by (own := [("_law_own", 5)]) (N := N_L_known_right) (sc := defScope s_L_known_right) (by decide +kernel))
            (fun _ _ _ _ _ => pg_name (i := 5) sc_L_known_right.nd rfl (.inl rfl)) (fun _ _ _ _ _ => pts_one (pt_cmpR (sEqK (n := 0) T rfl rfl rfl rfl rfl (hr.mono (by decide))) (pv 4) (pv 5) (by rfl))) (fun _ _ _ _ _ => pv 5)) (pe_lst pa_nil) (nomark _)))
    case r =>
      obtain ⟨rfl, hQ⟩ := h
      refine ⟨by show 2 ≤ sizeLine; decide, fun q1 nq1 => ⟨by show 2 ≤ sizeLine; decide, fun q2 nq2 => ?_⟩⟩
      have s1 : Same H (upd (upd H q1 (.tup [.str "b", .str "c"])) q2 (.tup [.str "a", .ref q1])) := same_new2 (same_new nq1) nq2
      have d1 : Dp K (upd (upd H q1 (.tup [.str "b", .str "c"])) q2 (.tup [.str "a", .ref q1])) (.ref q2) T0.data := .tupM upd_same (.cons (.str _) (.cons (.tupM (same_new nq2 _ _ upd_same) (.cons (.str _) (.cons (.str _) .nil))) .nil))
      generalize upd (upd H q1 (.tup [.str "b", .str "c"])) q2 (.tup [.str "a", .ref q1]) = H1 at s1 d1 ⊢
      have mk : ∀ {Hx : Hp} {x dx : Addr} {Hy : Hp}, Hx x = none → Hx dx = none → Keep [x, dx] (upd (upd Hx dx (.own x)) x (.ins (CS K) dx [])) Hy → dx ≠ x → Same Hx Hy := fun nx nd k ne b u e => k b u (new_same nx nd b u e) (by simp [ne_of_none e nx, ne_of_none e nd])
      refine ⟨_, rfl, fun x1 dx1 nx1 nd1 ne1 => ?_⟩
      refine ⟨x1, dx1, .ref q2, T0, 16, rfl, .mk ne1, .of (d1.same (new_same nx1 nd1)) ok0, okX0, fun H2 lo1 ld1 k1 nlo1 nld1 A1 => ⟨rfl, ?_⟩⟩
      have s2 := mk nx1 nd1 k1 ne1
      refine ⟨_, rfl, fun x2 dx2 nx2 nd2 ne2 => ?_⟩
      refine ⟨x2, dx2, .ref q2, T0, 16, rfl, .mk ne2, .of ((d1.same s2).same (new_same nx2 nd2)) ok0, okX0, fun H3 lo2 ld2 k2 nlo2 nld2 B1 => ⟨rfl, ?_⟩⟩
      have s3 := mk nx2 nd2 k2 ne2
      have sn1 := new_same (C := CS K) nx1 nd1
      have sn2 := new_same (C := CS K) nx2 nd2
      have zlo1 : H lo1 = none := s1.free (sn1.free nlo1)
      have zld1 : H ld1 = none := s1.free (sn1.free nld1)
      have s12 := s1.trans s2
      have zlo2 : H lo2 = none := s12.free (sn2.free nlo2)
      have zld2 : H ld2 = none := s12.free (sn2.free nld2)
      have nA := A1.same sn2
      have e1 := nA.ne nlo2
      have e2 := nA.ne nld2
      have A := A1.same s3
      have S3 := s12.trans s3
      have d3 := (d1.same s2).same s3
      clear nA k1 k2
      have nB1 : lo2 ∉ [lo1, ld1] := by simp [e1]
      have nB2 : ld2 ∉ [lo1, ld1] := by simp [e2]
      have nA1 : lo1 ∉ [lo2, ld2] := by simp [Ne.symm e1.1, Ne.symm e2.1]
      have nA2 : ld1 ∉ [lo2, ld2] := by simp [Ne.symm e1.2, Ne.symm e2.2]
      have l1 : lockO [[]] "a" = [("a" : Str)] := by decide +kernel
      have l2 : lockO [[], [("a" : Str)]] "b" = [("a" : Str), "b"] := by decide +kernel
      have l3 : lockO [[]] "b" = [("b" : Str)] := by decide +kernel
      have l4 : lockO [[], [("b" : Str)]] "a" = [("a" : Str), "b"] := by decide +kernel
      have c1 : (cnt T0 (lockO [[]] "a") : Int) ≤ 16 := by rw [l1]; exact cnt0 _ (.inl rfl)
      have c2 : (cnt T0 (lockO [[], [("a" : Str)]] "b") : Int) ≤ 16 := by rw [l2]; exact cnt0 _ (.inr (.inr rfl))
      have c3 : (cnt T0 (lockO [[]] "b") : Int) ≤ 16 := by rw [l3]; exact cnt0 _ (.inr (.inl rfl))
      have c4 : (cnt T0 (lockO [[], [("b" : Str)]] "a") : Int) ≤ 16 := by rw [l4]; exact cnt0 _ (.inr (.inr rfl))
      have zA : ∀ a ∈ [lo1, ld1], H a = none := by intro a ha; rcases List.mem_cons.mp ha with rfl | ha; exact zlo1; rw [List.mem_singleton.mp ha]; exact zld1
      have zB : ∀ a ∈ [lo2, ld2], H a = none := by intro a ha; rcases List.mem_cons.mp ha with rfl | ha; exact zlo2; rw [List.mem_singleton.mp ha]; exact zld2
      refine ⟨_, _, rfl, ?_⟩
      obtain ⟨w1, ws1, g1⟩ := slt_of A
      refine ⟨_, rfl, x1, w1, ws1, rfl, g1, x1, lo1, ld1, T0, 16, _, _, "a", rfl, A, by decide, fun h => absurd (by decide +kernel) h, fun _ => ⟨fun h => absurd h (by decide +kernel), fun _ => ⟨fun h => absurd (c1) (Int.not_le.mpr h), fun _ H4 k4 A4 => ?_⟩⟩⟩
      rw [l1] at A4
      have B4 := B1.keep k4 A.soft nB1 nB2
      have S4 := same_keep S3 k4 zA
      have d4 := d3.keep k4 A.soft.noTup (noL_T _)
      obtain ⟨w2, ws2, g2⟩ := slt_of A4
      refine ⟨_, rfl, x1, w2, ws2, rfl, g2, x1, lo1, ld1, T0, 16, _, _, "b", rfl, A4, by decide, fun h => absurd (by decide +kernel) h, fun _ => ⟨fun h => absurd h (by decide +kernel), fun _ => ⟨fun h => absurd (c2) (Int.not_le.mpr h), fun _ H5 k5 A5 => ?_⟩⟩⟩
      have B5 := B4.keep k5 A4.soft nB1 nB2
      have S5 := same_keep S4 k5 zA
      have d5 := d4.keep k5 A4.soft.noTup (noL_T _)
      obtain ⟨w3, ws3, g3⟩ := slt_of B5
      refine ⟨_, rfl, x2, w3, ws3, rfl, g3, x2, lo2, ld2, T0, 16, _, _, "b", rfl, B5, by decide, fun h => absurd (by decide +kernel) h, fun _ => ⟨fun h => absurd h (by decide +kernel), fun _ => ⟨fun h => absurd (c3) (Int.not_le.mpr h), fun _ H6 k6 B6 => ?_⟩⟩⟩
      rw [l3] at B6
      have A6 := A5.keep k6 B5.soft nA1 nA2
      have S6 := same_keep S5 k6 zB
      have d6 := d5.keep k6 B5.soft.noTup (noL_T _)
      obtain ⟨w4, ws4, g4⟩ := slt_of B6
      refine ⟨_, rfl, x2, w4, ws4, rfl, g4, x2, lo2, ld2, T0, 16, _, _, "a", rfl, B6, by decide, fun h => absurd (by decide +kernel) h, fun _ => ⟨fun h => absurd h (by decide +kernel), fun _ => ⟨fun h => absurd (c4) (Int.not_le.mpr h), fun _ H7 k7 B7 => ?_⟩⟩⟩
      have A7 := A6.keep k7 B6.soft nA1 nA2
      have S7 := same_keep S6 k7 zB
      have d7 := d6.keep k7 B6.soft.noTup (noL_T _)
      refine ⟨by show 4 ≤ sizeLine; decide, fun lt nlt => ?_⟩
      have A7 : SAt K H7 x1 lo1 ld1 T0 16 [[], [("a" : Str)], [("a" : Str), "b"]] [(("lock" : Str), ("a" : Str)), ("lock", "b")] := by
        have z := A7
        rw [show lockO ([[]] ++ [[("a" : Str)]]) "b" = [("a" : Str), "b"] from l2] at z
        exact z
      have B7 : SAt K H7 x2 lo2 ld2 T0 16 [[], [("b" : Str)], [("a" : Str), "b"]] [(("lock" : Str), ("b" : Str)), ("lock", "a")] := by
        have z := B7
        rw [show lockO ([[]] ++ [[("b" : Str)]]) "a" = [("a" : Str), "b"] from l4] at z
        exact z
      generalize hH8 : upd H7 lt _ = H8
      have s8 : Same H7 H8 := hH8 ▸ same_new nlt
      have e8 : H8 lt = some (.lst [.int 1, .int 2, .int 1, .int 2]) := by
        rw [← hH8]
        exact upd_same
      have A8 := A7.same s8
      have B8 := B7.same s8
      have S8 := S7.trans s8
      have d8 := d7.same s8
      clear hH8
      obtain ⟨w5, ws5, g5⟩ := slt_of A8
      refine ⟨_, rfl, x1, w5, ws5, rfl, g5, x1, lo1, ld1, T0, 16, _, _, rfl, A8, fun H9 x3 lo3 ld3 s9 nx3 nlo3 nld3 C9 => ?_⟩
      have A9 := A8.same s9
      have B9 := B8.same s9
      have S9 := S8.trans s9
      have d9 := d8.same s9
      have e9 := s9 _ _ e8
      have zlo3 := S8.free nlo3
      have zld3 := S8.free nld3
      have f1 := A8.ne nlo3
      have f2 := A8.ne nld3
      have f3 := B8.ne nlo3
      have f4 := B8.ne nld3
      refine ⟨_, rfl, by show 4 ≤ sizeLine; decide, fun l2 nl2 => ?_⟩
      have s10 := same_new (o := .lst [.int 1, .int 2, .int 1, .int 2]) nl2
      have e10 : upd H9 l2 (.lst [.int 1, .int 2, .int 1, .int 2]) l2 = some (.lst [.int 1, .int 2, .int 1, .int 2]) := upd_same
      generalize upd H9 l2 (.lst [.int 1, .int 2, .int 1, .int 2]) = H10 at s10 e10 ⊢
      have e9' := s10 _ _ e9
      have di : ∀ {G : Hp}, DpAll K G [.int 1, .int 2, .int 1, .int 2] [.int 1, .int 2, .int 1, .int 2] := .cons (.int _) (.cons (.int _) (.cons (.int _) (.cons (.int _) .nil)))
      refine ⟨.list [.int 1, .int 2, .int 1, .int 2], .list [.int 1, .int 2, .int 1, .int 2], .lstM e9' di, .lstM e10 di, by decide +kernel, by decide +kernel, _, rfl, ?_⟩
      rw [show (!PyData.eqv (.list [.int 1, .int 2, .int 1, .int 2]) (.list [.int 1, .int 2, .int 1, .int 2])) = false from by decide +kernel]
      refine iteF ?_
      have A10 := A9.same s10
      have B10 := B9.same s10
      have C10 := C9.same s10
      have S10 := S9.trans s10
      have d10 := d9.same s10
      obtain ⟨w6, ws6, g6⟩ := slt_of A10
      obtain ⟨w7, ws7, g7⟩ := slt_of B10
      obtain ⟨w8, ws8, g8⟩ := slt_of C10
      refine ⟨_, rfl, _, rfl, x1, w6, ws6, rfl, g6, .inl ⟨x2, CS K, w7, ws7, rfl, g7, T.sne.me⟩, x1, lo1, ld1, T0, 16, _, _, .ref x2, rfl, A10, .inl ⟨x2, lo2, ld2, T0, 16, _, _, rfl, B10, fun H11 s11 => ⟨_, rfl, _, rfl, ?_⟩⟩⟩
      rw [if_neg Bool.false_ne_true, show eqSt T0 16 [(("lock" : Str), ("a" : Str)), ("lock", "b")] T0 16 [(("lock" : Str), ("b" : Str)), ("lock", "a")] = false from by decide +kernel]
      refine iteF ?_
      have A11 := A10.same s11
      have B11 := B10.same s11
      have C11 := C10.same s11
      have S11 := S10.trans s11
      have d11 := d10.same s11
      refine ⟨_, rfl, by show 1 ≤ sizeLine; decide, fun la nla => ⟨by show 1 ≤ sizeLine; decide, fun lb nlb => ?_⟩⟩
      have s12 : Same H11 (upd (upd H11 la (.lst [.ref x1])) lb (.lst [.non])) := same_new2 (same_new nla) nlb
      have ela : upd (upd H11 la (.lst [.ref x1])) lb (.lst [.non]) la = some (.lst [.ref x1]) := same_new nlb _ _ upd_same
      have elb : upd (upd H11 la (.lst [.ref x1])) lb (.lst [.non]) lb = some (.lst [.non]) := upd_same
      generalize upd (upd H11 la (.lst [.ref x1])) lb (.lst [.non]) = H12 at s12 ela elb ⊢
      have A12 := A11.same s12
      have B12 := B11.same s12
      have C12 := C11.same s12
      have S12 := S11.trans s12
      have d12 := d11.same s12
      obtain ⟨w9, ws9, g9⟩ := slt_of A12
      refine ⟨la, lb, x1, w9, ws9, rfl, rfl, ela, elb, g9, T.sne.non, x1, lo1, ld1, T0, 16, _, _, .non, rfl, A12, .inr ⟨.type "NoneType", .base .non, T.sne.knon, fun H13 s13 => ⟨rfl, s13 _ _ ela, s13 _ _ elb, _, rfl, ?_⟩⟩⟩
      refine iteF ?_
      have A13 := A12.same s13
      have B13 := B12.same s13
      have C13 := C12.same s13
      have S13 := S12.trans s13
      have d13 := d12.same s13
      obtain ⟨w10, ws10, g10⟩ := slt_of A13
      obtain ⟨w11, ws11, g11⟩ := slt_of C13
      refine ⟨_, rfl, _, rfl, x3, w11, ws11, rfl, g11, .inl ⟨x1, CS K, w10, ws10, rfl, g10, T.sne.me⟩, x3, lo3, ld3, T0, 16, _, _, .ref x1, rfl, C13, .inl ⟨x1, lo1, ld1, T0, 16, _, _, rfl, A13, fun H14 s14 => ⟨_, rfl, _, rfl, ?_⟩⟩⟩
      rw [if_pos rfl, show eqSt T0 16 [(("lock" : Str), ("a" : Str)), ("lock", "b")] T0 16 [(("lock" : Str), ("a" : Str)), ("lock", "b")] = true from by decide +kernel]
      refine iteF ?_
      have A14 := A13.same s14
      have B14 := B13.same s14
      have C14 := C13.same s14
      have S14 := S13.trans s14
      have d14 := d13.same s14
      obtain ⟨w12, ws12, g12⟩ := slt_of C14
      refine ⟨_, rfl, x3, w12, ws12, rfl, g12, x3, lo3, ld3, T0, 16, _, _, rfl, C14, fun h => absurd h (by decide), fun _ H15 k15 C15 => ?_⟩
      have nA3 : lo1 ∉ [lo3, ld3] := by simp [Ne.symm f1.1, Ne.symm f2.1]
      have nA4 : ld1 ∉ [lo3, ld3] := by simp [Ne.symm f1.2, Ne.symm f2.2]
      have nB3 : lo2 ∉ [lo3, ld3] := by simp [Ne.symm f3.1, Ne.symm f4.1]
      have nB4 : ld2 ∉ [lo3, ld3] := by simp [Ne.symm f3.2, Ne.symm f4.2]
      have zC : ∀ a ∈ [lo3, ld3], H a = none := by intro a ha; rcases List.mem_cons.mp ha with rfl | ha; exact zlo3; rw [List.mem_singleton.mp ha]; exact zld3
      have A15 := A14.keep k15 C14.soft nA3 nA4
      have B15 := B14.keep k15 C14.soft nB3 nB4
      have S15 := same_keep S14 k15 zC
      have d15 := d14.keep k15 C14.soft.noTup (noL_T _)
      have C15 : SAt K H15 x3 lo3 ld3 T0 16 [[], [("a" : Str)]] [(("lock" : Str), ("a" : Str))] := C15
      obtain ⟨w13, ws13, g13⟩ := slt_of A15
      obtain ⟨w14, ws14, g14⟩ := slt_of C15
      refine ⟨_, rfl, _, rfl, x3, w14, ws14, rfl, g14, .inl ⟨x1, CS K, w13, ws13, rfl, g13, T.sne.me⟩, x3, lo3, ld3, T0, 16, _, _, .ref x1, rfl, C15, .inl ⟨x1, lo1, ld1, T0, 16, _, _, rfl, A15, fun H16 s16 => ⟨_, rfl, _, rfl, ?_⟩⟩⟩
      rw [if_neg Bool.false_ne_true, show eqSt T0 16 [(("lock" : Str), ("a" : Str))] T0 16 [(("lock" : Str), ("a" : Str)), ("lock", "b")] = false from by decide +kernel]
      refine iteF ?_
      have A16 := A15.same s16
      have B16 := B15.same s16
      have C16 := C15.same s16
      have S16 := S15.trans s16
      have d16 := d15.same s16
      obtain ⟨w15, ws15, g15⟩ := slt_of C16
      refine ⟨_, rfl, x3, w15, ws15, rfl, g15, x3, lo3, ld3, T0, 16, _, _, rfl, C16, fun H17 v17 s17 dv17 => ⟨by show 1 ≤ sizeLine; decide, fun q3 nq3 => ?_⟩⟩
      have dv17 : Dp K H17 v17 (outD ["a"]) := dv17
      have s18 := same_new (o := .tup [.str "a"]) nq3
      refine ⟨outD ["a"], outD ["a"], dv17.same s18, .tupM upd_same (.cons (.str _) .nil), by decide +kernel, by decide +kernel, _, rfl, ?_⟩
      rw [show (!PyData.eqv (outD ["a"]) (outD ["a"])) = false from by decide +kernel]
      refine iteF ?_
      generalize upd H17 q3 (.tup [.str "a"]) = H18 at s18 ⊢
      have s1618 := s17.trans s18
      have A18 := A16.same s1618
      have B18 := B16.same s1618
      have C18 := C16.same s1618
      have S18 := S16.trans s1618
      have d18 := d16.same s1618
      obtain ⟨w16, ws16, g16⟩ := slt_of A18
      refine ⟨_, rfl, x1, w16, ws16, rfl, g16, x1, lo1, ld1, T0, 16, _, _, rfl, A18, fun H19 v19 s19 dv19 => ⟨by show 2 ≤ sizeLine; decide, fun q4 nq4 => ?_⟩⟩
      have dv19 : Dp K H19 v19 (outD ["a", "b"]) := dv19
      have s20 := same_new (o := .tup [.str "a", .str "b"]) nq4
      refine ⟨outD ["a", "b"], outD ["a", "b"], dv19.same s20, .tupM upd_same (.cons (.str _) (.cons (.str _) .nil)), by decide +kernel, by decide +kernel, _, rfl, ?_⟩
      rw [show (!PyData.eqv (outD ["a", "b"]) (outD ["a", "b"])) = false from by decide +kernel]
      refine iteF ?_
      generalize upd H19 q4 (.tup [.str "a", .str "b"]) = H20 at s20 ⊢
      have s1820 := s19.trans s20
      have A20 := A18.same s1820
      have B20 := B18.same s1820
      have C20 := C18.same s1820
      have S20 := S18.trans s1820
      have d20 := d18.same s1820
      obtain ⟨w17, ws17, g17⟩ := slt_of C20
      refine ⟨_, rfl, x3, w17, ws17, rfl, g17, x3, lo3, ld3, T0, 16, _, _, rfl, C20, fun h => absurd h (by decide), fun _ H21 k21 C21 => ?_⟩
      have A21 := A20.keep k21 C20.soft nA3 nA4
      have B21 := B20.keep k21 C20.soft nB3 nB4
      have S21 := same_keep S20 k21 zC
      have d21 := d20.keep k21 C20.soft.noTup (noL_T _)
      have C21 : SAt K H21 x3 lo3 ld3 T0 16 [[]] [] := C21
      refine ⟨_, rfl, _, rfl, fun x4 dx4 nx4 nd4 ne4 => ?_⟩
      refine ⟨x4, dx4, .ref q2, T0, 16, rfl, .mk ne4, .of (d21.same (new_same nx4 nd4)) ok0, okX0, fun H22 lo4 ld4 kk4 nlo4 nld4 E22 => ⟨rfl, ?_⟩⟩
      have s22 := mk nx4 nd4 kk4 ne4
      have A22 := A21.same s22
      have B22 := B21.same s22
      have C22 := C21.same s22
      have S22 := S21.trans s22
      have d22 := d21.same s22
      obtain ⟨w18, ws18, g18⟩ := slt_of C22
      obtain ⟨w19, ws19, g19⟩ := slt_of E22
      refine ⟨x3, w18, ws18, rfl, g18, .inl ⟨x4, CS K, w19, ws19, rfl, g19, T.sne.me⟩, x3, lo3, ld3, T0, 16, _, _, .ref x4, rfl, C22, .inl ⟨x4, lo4, ld4, T0, 16, _, _, rfl, E22, fun H23 s23 => ⟨_, rfl, _, rfl, ?_⟩⟩⟩
      rw [if_pos rfl, show eqSt T0 16 [] T0 16 [] = true from by decide +kernel]
      refine iteF ?_
      have A23 := A22.same s23
      have B23 := B22.same s23
      have C23 := C22.same s23
      have S23 := S22.trans s23
      have d23 := d22.same s23
      obtain ⟨w20, ws20, g20⟩ := slt_of C23
      refine ⟨_, rfl, x3, w20, ws20, rfl, g20, x3, lo3, ld3, T0, 16, _, _, "b", rfl, C23, by decide, fun h => absurd (by decide +kernel) h, fun _ => ⟨fun h => absurd h (by decide +kernel), fun _ => ⟨fun h => absurd (c3) (Int.not_le.mpr h), fun _ H24 k24 C24 => ?_⟩⟩⟩
      rw [l3] at C24
      have A24 := A23.keep k24 C23.soft nA3 nA4
      have B24 := B23.keep k24 C23.soft nB3 nB4
      have S24 := same_keep S23 k24 zC
      have d24 := d23.keep k24 C23.soft.noTup (noL_T _)
      obtain ⟨w21, ws21, g21⟩ := slt_of C24
      refine ⟨_, rfl, x3, w21, ws21, rfl, g21, x3, lo3, ld3, T0, 16, _, _, "a", rfl, C24, by decide, fun h => absurd (by decide +kernel) h, fun _ => ⟨fun h => absurd h (by decide +kernel), fun _ => ⟨fun h => absurd (c4) (Int.not_le.mpr h), fun _ H25 k25 C25 => ?_⟩⟩⟩
      have A25 := A24.keep k25 C24.soft nA3 nA4
      have B25 := B24.keep k25 C24.soft nB3 nB4
      have S25 := same_keep S24 k25 zC
      have d25 := d24.keep k25 C24.soft.noTup (noL_T _)
      have C25 : SAt K H25 x3 lo3 ld3 T0 16 [[], [("b" : Str)], [("a" : Str), "b"]] [(("lock" : Str), ("b" : Str)), ("lock", "a")] := by
        have z := C25
        rw [show lockO ([[]] ++ [[("b" : Str)]]) "a" = [("a" : Str), "b"] from l4] at z
        exact z
      refine ⟨by show 2 ≤ sizeLine; decide, fun lc nlc => ⟨by show 2 ≤ sizeLine; decide, fun le nle => ?_⟩⟩
      have s26 := same_new2 (o := .lst [.int 1, .int 2]) (same_new nlc) nle
      generalize h26 : upd (upd H25 lc _) le _ = H26 at s26
      have ec26 : H26 lc = some (.lst [.int 1, .int 2]) := by
        rw [← h26]
        exact same_new nle _ _ upd_same
      have ee26 : H26 le = some (.lst [.int 1, .int 2]) := by
        rw [← h26]
        exact upd_same
      have s26 : Same H25 H26 := by
        rw [← h26]
        exact same_new2 (same_new nlc) nle
      clear h26
      have dii : ∀ {G : Hp} {i j : Int}, DpAll K G [.int i, .int j] [.int i, .int j] := .cons (.int _) (.cons (.int _) .nil)
      refine ⟨.list [.int 1, .int 2], .list [.int 1, .int 2], .lstM ec26 dii, .lstM ee26 dii, by decide +kernel, by decide +kernel, _, rfl, ?_⟩
      rw [show (!PyData.eqv (.list [.int 1, .int 2]) (.list [.int 1, .int 2])) = false from by decide +kernel]
      refine iteF ?_
      have A26 := A25.same s26
      have B26 := B25.same s26
      have C26 := C25.same s26
      have S26 := S25.trans s26
      obtain ⟨w22, ws22, g22⟩ := slt_of C26
      obtain ⟨w23, ws23, g23⟩ := slt_of B26
      refine ⟨_, rfl, _, rfl, x3, w22, ws22, rfl, g22, .inl ⟨x2, CS K, w23, ws23, rfl, g23, T.sne.me⟩, x3, lo3, ld3, T0, 16, _, _, .ref x2, rfl, C26, .inl ⟨x2, lo2, ld2, T0, 16, _, _, rfl, B26, fun H27 s27 => ⟨_, rfl, _, rfl, ?_⟩⟩⟩
      rw [if_pos rfl, show eqSt T0 16 [(("lock" : Str), ("b" : Str)), ("lock", "a")] T0 16 [(("lock" : Str), ("b" : Str)), ("lock", "a")] = true from by decide +kernel]
      refine iteF ?_
      have B27 := B26.same s27
      have C27 := C26.same s27
      have S27 := S26.trans s27
      have l5 : letO [[], [("b" : Str)], [("a" : Str), "b"]] "a" = [("b" : Str)] := by decide +kernel
      have l6 : lockO [[], [("b" : Str)], [("a" : Str), "b"], [("b" : Str)]] "a" = [("a" : Str), "b"] := by decide +kernel
      have c5 : (cnt T0 (letO [[], [("b" : Str)], [("a" : Str), "b"]] "a") : Int) ≤ 16 := by rw [l5]; exact cnt0 _ (.inr (.inl rfl))
      have c6 : (cnt T0 (lockO [[], [("b" : Str)], [("a" : Str), "b"], [("b" : Str)]] "a") : Int) ≤ 16 := by rw [l6]; exact cnt0 _ (.inr (.inr rfl))
      obtain ⟨w24, ws24, g24⟩ := slt_of C27
      refine ⟨_, rfl, x3, w24, ws24, rfl, g24, x3, lo3, ld3, T0, 16, _, _, "a", rfl, C27, by decide, fun h => absurd (by decide +kernel) h, fun _ => ⟨fun h => absurd (by decide +kernel) h, fun _ => ⟨fun h => absurd (c5) (Int.not_le.mpr h), fun _ H28 k28 C28 => ?_⟩⟩⟩
      have C28 : SAt K H28 x3 lo3 ld3 T0 16 [[], [("b" : Str)], [("a" : Str), "b"], [("b" : Str)]] [(("lock" : Str), ("b" : Str)), ("lock", "a"), ("let", "a")] := by
        have z := C28
        rw [l5] at z
        exact z
      have B28 := B27.keep k28 C27.soft nB3 nB4
      have S28 := same_keep S27 k28 zC
      obtain ⟨w25, ws25, g25⟩ := slt_of C28
      refine ⟨_, rfl, x3, w25, ws25, rfl, g25, x3, lo3, ld3, T0, 16, _, _, "a", rfl, C28, by decide, fun h => absurd (by decide +kernel) h, fun _ => ⟨fun h => absurd h (by decide +kernel), fun _ => ⟨fun h => absurd (c6) (Int.not_le.mpr h), fun _ H29 k29 C29 => ?_⟩⟩⟩
      have C29 : SAt K H29 x3 lo3 ld3 T0 16 [[], [("b" : Str)], [("a" : Str), "b"], [("b" : Str)], [("a" : Str), "b"]] [(("lock" : Str), ("b" : Str)), ("lock", "a"), ("let", "a"), ("lock", "a")] := by
        have z := C29
        rw [l6] at z
        exact z
      have B29 := B28.keep k29 C28.soft nB3 nB4
      have S29 := same_keep S28 k29 zC
      refine ⟨by show 2 ≤ sizeLine; decide, fun lc nlc => ⟨by show 2 ≤ sizeLine; decide, fun le nle => ?_⟩⟩
      have s30 := same_new2 (o := .lst [.int 3, .int 4]) (same_new nlc) nle
      generalize h30 : upd (upd H29 lc _) le _ = H30 at s30
      have ec30 : H30 lc = some (.lst [.int 3, .int 4]) := by
        rw [← h30]
        exact same_new nle _ _ upd_same
      have ee30 : H30 le = some (.lst [.int 3, .int 4]) := by
        rw [← h30]
        exact upd_same
      have s30 : Same H29 H30 := by
        rw [← h30]
        exact same_new2 (same_new nlc) nle
      clear h30
      refine ⟨.list [.int 3, .int 4], .list [.int 3, .int 4], .lstM ec30 dii, .lstM ee30 dii, by decide +kernel, by decide +kernel, _, rfl, ?_⟩
      rw [show (!PyData.eqv (.list [.int 3, .int 4]) (.list [.int 3, .int 4])) = false from by decide +kernel]
      refine iteF ?_
      have B30 := B29.same s30
      have C30 := C29.same s30
      have S30 := S29.trans s30
      obtain ⟨w26, ws26, g26⟩ := slt_of C30
      obtain ⟨w27, ws27, g27⟩ := slt_of B30
      refine ⟨_, rfl, _, rfl, x3, w26, ws26, rfl, g26, .inl ⟨x2, CS K, w27, ws27, rfl, g27, T.sne.me⟩, x3, lo3, ld3, T0, 16, _, _, .ref x2, rfl, C30, .inl ⟨x2, lo2, ld2, T0, 16, _, _, rfl, B30, fun H31 s31 => ⟨_, rfl, _, rfl, ?_⟩⟩⟩
      rw [if_neg Bool.false_ne_true, show eqSt T0 16 [(("lock" : Str), ("b" : Str)), ("lock", "a"), ("let", "a"), ("lock", "a")] T0 16 [(("lock" : Str), ("b" : Str)), ("lock", "a")] = false from by decide +kernel]
      refine iteF ?_
      have B31 := B30.same s31
      have C31 := C30.same s31
      have S31 := S30.trans s31
      obtain ⟨w28, ws28, g28⟩ := slt_of C31
      refine ⟨_, rfl, x3, w28, ws28, rfl, g28, x3, lo3, ld3, T0, 16, _, _, rfl, C31, fun H32 v32 s32 dv32 => ?_⟩
      have dv32 : Dp K H32 v32 (outD ["a", "b"]) := dv32
      have B32 := B31.same s32
      obtain ⟨w29, ws29, g29⟩ := slt_of B32
      refine ⟨_, rfl, x2, w29, ws29, rfl, g29, x2, lo2, ld2, T0, 16, _, _, rfl, B32, fun H33 v33 s33 dv33 => ?_⟩
      have dv33 : Dp K H33 v33 (outD ["a", "b"]) := dv33
      refine ⟨outD ["a", "b"], outD ["a", "b"], dv32.same s33, dv33, by decide +kernel, by decide +kernel, _, rfl, ?_⟩
      rw [show (!PyData.eqv (outD ["a", "b"]) (outD ["a", "b"])) = false from by decide +kernel]
      refine iteF ?_
      have C33 := C31.same (s32.trans s33)
      have S33 := S31.trans (s32.trans s33)
      refine ⟨by show 0 ≤ sizeLine; decide, fun q5 nq5 => ?_⟩
      have s34 := same_new (o := .tup []) nq5
      have e34 : upd H33 q5 (.tup []) q5 = some (.tup []) := upd_same
      generalize upd H33 q5 (.tup []) = H34 at s34 e34 ⊢
      have C34 := C33.same s34
      obtain ⟨w30, ws30, g30⟩ := slt_of C34
      refine ⟨_, rfl, x3, w30, ws30, rfl, g30, x3, lo3, ld3, T0, 16, _, _, rfl, C34, fun H35 v35 s35 dv35 => ?_⟩
      refine ⟨_, rfl, by show 1 ≤ sizeLine; decide, fun lq nlq => ?_⟩
      have s36 := same_new (o := .lst [.ref x3]) nlq
      have e36 : upd H35 lq (.lst [.ref x3]) lq = some (.lst [.ref x3]) := upd_same
      generalize upd H35 lq (.lst [.ref x3]) = H36 at s36 e36 ⊢
      refine ⟨by show 5 ≤ sizeLine; decide, fun qt nqt => ?_⟩
      have s37 := same_new (o := .tup [.ref q5, .str "a", .int 0, v35, .ref lq]) nqt
      have e37 : upd H36 qt (.tup [.ref q5, .str "a", .int 0, v35, .ref lq]) qt = some (.tup [.ref q5, .str "a", .int 0, v35, .ref lq]) := upd_same
      generalize upd H36 qt (.tup [.ref q5, .str "a", .int 0, v35, .ref lq]) = H37 at s37 e37 ⊢
      have s3637 := s36.trans s37
      have e34' := s3637 _ _ (s35 _ _ e34)
      have e36' := s37 _ _ e36
      have dv37 := dv35.same s3637
      have C37 := C34.same (s35.trans s3637)
      have S37 := S33.trans (s34.trans (s35.trans s3637))
      have oth : ∀ {G : Hp}, Same H37 G → ∀ (j : Nat) (x : V), [V.ref q5, .str "a", .int 0, v35, .ref lq][j]? = some x → ∃ tt, TyX K G x tt ∧ PySem.W.notFirst K (CS K) tt = true ∧ PySem.W.kitOne K tt (.ref (CS K)) = some false := by
        intro G sG j x hx
        match j, hx with
        | 0, hx =>
          cases hx
          obtain ⟨n, h1, h2⟩ := ty_dp (Dp.same sG (Dp.tupM (K := K) e34' .nil))
          cases h1
          exact ⟨_, h2, T.sne.tup, T.sne.ktup⟩
        | 1, hx =>
          cases hx
          obtain ⟨n, h1, h2⟩ := ty_dp (Dp.str (K := K) (H := G) "a")
          cases h1
          exact ⟨_, h2, T.sne.str, T.sne.kstr⟩
        | 2, hx =>
          cases hx
          obtain ⟨n, h1, h2⟩ := ty_dp (Dp.int (K := K) (H := G) 0)
          cases h1
          exact ⟨_, h2, T.sne.int, T.sne.kint⟩
        | 3, hx =>
          cases hx
          obtain ⟨n, h1, h2⟩ := ty_dp (dv37.same sG)
          cases h1
          exact ⟨_, h2, T.sne.tup, T.sne.ktup⟩
        | 4, hx =>
          cases hx
          exact ⟨_, ty_lst (.of (sG _ _ e36')), T.sne.lst, T.sne.klst⟩
      refine ⟨qt, rfl, comp_seq (K := K) (.inr (.of e37)) (fun _ => none) (fun D j x H38 nD hx hj acc => ?_) fun D H38 acc => ?_⟩
      · obtain ⟨tt, y1, y2, y3⟩ := oth acc.1 j x hx
        have C38 := C37.same acc.1
        obtain ⟨w31, ws31, g31⟩ := slt_of C38
        refine ⟨rfl, _, rfl, _, rfl, x3, w31, ws31, rfl, g31, .inr ⟨tt, y1, y2⟩, x3, lo3, ld3, T0, 16, _, _, x, rfl, C38, .inr ⟨tt, y1, y3, fun H39 s39 => ⟨_, rfl, _, rfl, ?_⟩⟩⟩
        exact iteF ((acc.same s39).skip rfl)
      · have eD := acc.dp
        rw [show (List.range [V.ref q5, .str "a", .int 0, v35, .ref lq].length).filterMap (fun _ => (none : Option PyData)) = [] from rfl] at eD
        refine ⟨by show 0 ≤ sizeLine; decide, fun lz nlz => ?_⟩
        have s40 := same_new (o := .lst []) nlz
        refine ⟨.list [], .list [], eD.same s40, .lstM upd_same .nil, by decide +kernel, by decide +kernel, ?_⟩
        rw [show PyData.eqv (.list []) (.list []) = true from by decide +kernel]
        exact hQ _ (S37.trans (acc.1.trans s40))
end
end K90
end

section
set_option Elab.async false
set_option linter.all false
set_option maxRecDepth 100000
set_option maxHeartbeats 4000000
/-! xs[lo:hi:step] of a list; xs[:] = ys -/
namespace K90
open PySem PySem.Spec PyProof.Rows L2
def stepV (xs : List V) (lo hi st : Option Int) : List V := (sliceRange (sliceBounds lo hi st xs.length).1 (sliceBounds lo hi st xs.length).2.1 (sliceBounds lo hi st xs.length).2.2).filterMap (xs[·]?)
theorem vals_fm {xs : List V} {its : List Value} (r : Vals xs its) : ∀ idx : List Nat, Vals (idx.filterMap (xs[·]?)) (idx.filterMap (its[·]?))
  | [] => .nil
  | i :: idx => by
    have ih := vals_fm r idx
    rw [List.filterMap_cons, List.filterMap_cons]
    by_cases h : i < xs.length
    · have h2 : i < its.length := by rw [← r.length]; exact h
      obtain ⟨u, hu, ru⟩ := r.get (List.getElem?_eq_getElem h)
      rw [List.getElem?_eq_getElem h, hu]
      exact .cons ru ih
    · rw [List.getElem?_eq_none (by omega), List.getElem?_eq_none (by rw [← r.length]; omega)]
      exact ih
def tStep (K : PySem.W.Frag) (te : TE) (tl th ts : TO) : TE := fun σ H Q => te σ H fun x H1 => tl σ H1 fun l H2 => th σ H2 fun u H3 => ts σ H3 fun c H4 => ∃ a xs, x = .ref a ∧ SqL K H4 a xs ∧ c ≠ some 0 ∧ (stepV xs l u c).length ≤ sizeLine ∧ ∀ p, H4 p = none → Q (.ref p) (upd H4 p (.lst (stepV xs l u c)))
theorem pe_step {X : Cx} {e : Expr} {lo hi : Option Expr} {st : Expr} {p2 pos : Pos} {te : TE} {tl th ts : TO} (he : PE X e te) (hl : PO X lo tl) (hu : PO X hi th) (hs : PO X (some st) ts) : PE X (.Subscript e (.Slice lo hi (some st) p2) pos) (tStep X.K te tl th ts) := by
  refine ⟨fun pins s σ H Q I h => ?_⟩
  refine Subscript_ (thn (he.run pins s σ H _ I h) fun v s1 ⟨x, H1, I1, r1, q1⟩ => ?_)
  refine wpAny_Slice (thn (hl.run pins s1 σ H1 _ I1 q1) fun vl s2 ⟨l, H2, I2, pl, q2⟩ => thn (hu.run pins s2 σ H2 _ I2 q2) fun vu s3 ⟨u, H3, I3, pu, q3⟩ => thn (hs.run pins s3 σ H3 _ I3 q3) fun vs s4 ⟨c, H4, I4, pc, q4⟩ => ?_)
  obtain ⟨a, xs, rfl, hx, hc, hz', q⟩ := q4
  cases r1
  have I5 : Inv X pins σ H4 { s4 with heap := s4.heap.push { cls := .type "slice", data := .fields #[vl, vu, vs] } } := I4.kept (t' := s4.toks) fun b ob q => Heap.get?_push_of_some _ q
  obtain ⟨its, r, ht, hz⟩ := I5.list hx
  have hlen := r.length
  have hg : wpAny (model X.prog X.w) X.A (getItem (.ref a) (.ref s4.heap.objs.size)) (EP X pins σ Q) X.xe { s4 with heap := s4.heap.push { cls := .type "slice", data := .fields #[vl, vu, vs] } } := by
    refine wpAny_getItem_list_slice ht.isList (Heap.IsSliceOf.new ..) pl pu pc hc ?_ (by rw [List.size_toArray] <;> omega)
    have e : slicePick its.toArray l u c = ((sliceRange (sliceBounds l u c xs.length).1 (sliceBounds l u c xs.length).2.1 (sliceBounds l u c xs.length).2.2).filterMap (its[·]?)).toArray := by
      unfold slicePick
      rw [List.size_toArray, ← hlen]
      congr 1
      congr 1
      funext i
      simp
    rw [e]
    refine ⟨.ref _, _, I5.laid (t' := s4.toks) (o := .lst (stepV xs l u c)) (fun b ob q => Heap.get?_push_of_some _ q) (Nat.le_refl _) ?_, rfl, q _ (I5.hok.fresh (Nat.le_refl _))⟩
    exact ⟨hz', _, 0, vals_fm r _, Heap.get?_push_size _ rfl⟩
  first
    | exact tail_any (ops := [.ref s4.heap.objs.size, .ref a]) ht.isList.typeIs slot_list_getitem.lookup hg (by with_unfolding_all rfl)
    | exact tail_any (ops := [.ref a, .ref s4.heap.objs.size]) ht.isList.typeIs slot_list_getitem.lookup hg (by with_unfolding_all rfl)
end K90
end

section
set_option Elab.async false
set_option linter.all false
set_option maxRecDepth 100000
set_option maxHeartbeats 4000000
/-! the plain facts of wide_right -/
namespace K90
open PySem PySem.Spec PyProof.Rows L2
def pairs : List T → List T
  | a :: b :: l => .node a b :: pairs l
  | _ => []
theorem pairs_get : ∀ (l : List T) (i : Nat) (a b : T), l[2 * i]? = some a → l[2 * i + 1]? = some b → (pairs l)[i]? = some (.node a b)
  | [], i, a, b, h, _ => by simp at h
  | [x], 0, a, b, _, h => by simp at h
  | [x], i + 1, a, b, h, _ => by simp at h
  | x :: y :: l, 0, a, b, h1, h2 => by
    have e1 : x = a := Option.some.inj h1
    have e2 : y = b := Option.some.inj h2
    subst e1 e2
    rfl
  | x :: y :: l, i + 1, a, b, h1, h2 => by
    have ih := pairs_get l i a b (by simpa [Nat.mul_add] using h1) (by simpa [Nat.mul_add] using h2)
    show (pairs l)[i]? = _
    exact ih
def wideL : List Str := ["a", "zz", "ab", "b", "c", "cc", "d", "e", "f", "g", "key", "m", "n", "x", "y", "z"]
def up : Nat → List T
  | 0 => wideL.map T.leaf
  | k + 1 => pairs (up k)
theorem up_len : ∀ k ≤ 4, (up k).length = 2 ^ (4 - k) := by decide +kernel
theorem pairs_len : ∀ k < 4, (pairs (up k)).length = 2 ^ (3 - k) := by decide +kernel
def TW : T := ((up 4).head?).getD (.leaf "")
theorem up4 : up 4 = [TW] := rfl
def evL : List Str := ["a", "ab", "c", "d", "f", "key", "n", "y"]
def odL : List Str := ["zz", "b", "cc", "e", "g", "m", "x", "z"]
def evA (i : Nat) : Str := evL.getD i ""
def oW : Nat → List (List Str)
  | 0 => [[]]
  | i + 1 => oW i ++ [lockO (oW i) (evA i)]
def dW (i : Nat) : List (Str × Str) := (List.range i).map fun k => (("lock" : Str), evA k)
theorem oW_len : ∀ i, (oW i).length = i + 1
  | 0 => rfl
  | i + 1 => by rw [oW, List.length_append, oW_len i]; rfl
theorem dW_len (i : Nat) : (dW i).length = i := by unfold dW; rw [List.length_map, List.length_range]
theorem dW_succ (i : Nat) : dW (i + 1) = dW i ++ [(("lock" : Str), evA i)] := by unfold dW; rw [List.range_succ, List.map_append]; rfl
theorem okTW : okT TW := ⟨by decide +kernel, by decide +kernel⟩
theorem okXW : okX TW := by
  intro x hx
  have : (TW.leaves.all fun x => PyData.strOk x) = true := by decide +kernel
  exact List.all_eq_true.mp this x hx
theorem w_in : ∀ i < 8, evA i ∈ TW.leaves := by decide +kernel
theorem w_no : ∀ i < 8, evA i ∉ lastO (oW i) := by decide +kernel
theorem w_cnt : ∀ i < 8, (cnt TW (lockO (oW i) (evA i)) : Int) ≤ 8 := by
  intro i hi
  rw [cnt_eq]
  revert i
  decide +kernel
def o9 : List (List Str) := oW 8 ++ [lockO (oW 8) "zz"]
theorem w_8 : cnt TW (lastO (oW 8)) = 8 := by rw [cnt_eq]; decide +kernel
theorem w_7 : cnt TW (lockO (oW 8) "zz") = 7 := by rw [cnt_eq]; decide +kernel
theorem w_9 : lastO o9 = lockO (oW 8) "zz" := by decide +kernel
theorem w_zin : ("zz" : Str) ∈ TW.leaves := by decide +kernel
theorem w_zno : ("zz" : Str) ∉ lastO (oW 8) := by decide +kernel
theorem w_room : roomL TW 8 (lastO (oW 8)) = sortS odL := by
  unfold roomL
  have e : (fun x => decide ((cnt TW (sortS (lastO (oW 8) ++ [x])) : Int) ≤ 8)) = fun x => decide (((if (nums TW (sortS (lastO (oW 8) ++ [x]))).length = 0 then 1 else (rowsAll (nums TW (sortS (lastO (oW 8) ++ [x]))) TW).length : Nat) : Int) ≤ 8) := by
    funext x
    rw [cnt_eq]
  rw [e]
  decide +kernel
theorem w_keys : keysL o9 "zz" = List.range 9 := by decide +kernel
theorem w_who : restL TW (o9.getD 9 []) = (restL TW (o9.getD 8 [])).dropLast := by decide +kernel
theorem w_wlen : (restL TW (o9.getD 8 [])).length = 8 := by decide +kernel
theorem w_ev : ∀ i < 8, evL[i]? = some (evA i) := by decide +kernel
end K90
end

section
set_option Elab.async false
set_option linter.all false
set_option maxRecDepth 100000
set_option maxHeartbeats 4000000
/-! the law's wide_right -/
namespace K90
open PySem PySem.Spec PyProof.Rows L2
def spWide (K : PySem.W.Frag) : Sp := fun vs H Q _ => vs = [] ∧ ∀ H', Same H H' → Q (.bl true) H'
section
variable {w : World} {K : PySem.W.Frag} {mg : Str → Option Value} {base : Heap}
theorem ok_L_wide (T : Txt K mg) : FnX w K mg base CX0 33 ("_law_wide_right", none) (spWide K) := by
  obtain ⟨fdI, SIi⟩ := ok_S_init (w := w) (base := base) T
  obtain ⟨itsI, kI⟩ := SIi.k2
  have FL := ok_S_lock (w := w) (base := base) T
  have FHd := ok_S_header (w := w) (base := base) T
  have FRm := ok_S_room (w := w) (base := base) T
  have FKy := ok_S_keys (w := w) (base := base) T
  have FWh := ok_S_who (w := w) (base := base) T
  refine fnr (ps := []) (T.fn 51) sc_L_wide_right ?ln ?bd (fun _ _ _ _ _ _ us hl => match us, hl with | [], _ => rfl)
  case ln =>
    rintro _ _ _ _ ⟨rfl, _⟩
    rfl
  case bd =>
    intro cdv A outer s H vs Q E hr h
    apply bodyN
    case h =>
      apply pss_cons
      · exact ps_set (i := 0) sc_L_wide_right.nd rfl (.inr rfl) (pe_lst (pa_cons pe_str (pa_cons pe_str (pa_cons pe_str (pa_cons pe_str (pa_cons pe_str (pa_cons pe_str (pa_cons pe_str (pa_cons pe_str (pa_cons pe_str (pa_cons pe_str (pa_cons pe_str (pa_cons pe_str (pa_cons pe_str (pa_cons pe_str (pa_cons pe_str (pa_cons pe_str pa_nil)))))))))))))))))
      apply pss_cons
      · exact ps_set (i := 1) sc_L_wide_right.nd rfl (.inl rfl) (pe_callTy call_list_of (by rfl) T.free boot_list (pa_cons (pv 0) pa_nil))
      apply pss_cons
      · apply ps_while PassesOwn.never
        · exact pt_cmpR op_gt (pe_callB call_len_seq (by rfl) T.free PySem.boot_len (pa_cons (pv 0) pa_nil)) pe_int (nomark _)
        · exact pss_one (ps_set (i := 0) sc_L_wide_right.nd rfl (.inr rfl) (pe_lcR (own := [("_law_k", 4)]) (g := gName 4) (tt := tYes) (by rfl) sc_L_wide_right.nd (pi_range1 (by rfl) T.free (pa_cons (pe_op op_fdiv (pe_callB call_len_seq (by rfl) T.free PySem.boot_len (pa_cons (pv 0) pa_nil)) pe_int) pa_nil)) (blkOk_by (own := [("_law_k", 4)]) (N := N_L_wide_right) (sc := defScope s_L_wide_right) (by decide +kernel))
            (fun _ _ _ _ _ => pg_name (i := 4) sc_L_wide_right.nd rfl (.inl rfl)) (fun _ _ _ _ _ => pts_nil) (fun _ _ _ _ _ => pe_tup (pa_cons (pe_ix (ixL K rfl) (pv 0) (pe_op op_mul pe_int (pv 4)) (fun _ _ => rfl)) (pa_cons (pe_ix (ixL K rfl) (pv 0) (pe_op op_add (pe_op op_mul pe_int (pv 4)) pe_int) (fun _ _ => rfl)) pa_nil)))))
      apply pss_cons
      · exact ps_set (i := 2) sc_L_wide_right.nd rfl (.inr rfl) (pe_makeK0 (T.mkr (x := "Sender")) SIi.ok (hr.mono (by decide)) (by rfl) T.glo kI pass0 (pk_cons pe_int (pk_cons (pe_ix ix_list (pv 0) pe_int (fun _ _ => rfl)) pk_nil)))
      apply pss_cons
      · exact ps_setLcR (i := 3) (own := [("_law_own", 5)]) (g := gName 5) (tt := tYes) (by rfl) sc_L_wide_right.nd rfl rfl (by rfl) (pi_seq (pe_step (pv 1) po_none po_none (po_some pe_int))) (blkOk_by (own := [("_law_own", 5)]) (N := N_L_wide_right) (sc := defScope s_L_wide_right) (by decide +kernel))
            (fun _ _ _ _ _ => pg_name (i := 5) sc_L_wide_right.nd rfl (.inl rfl)) (fun _ _ _ _ _ => pts_nil) (fun _ _ _ _ _ => SlX.pe_methSl (pv 2) (T.scls (x := "Sender")) (T.meth (x := "Sender") (m := "lock")) FL (hr.mono (by decide)) pF (pa_cons (pv 5) pa_nil))
      apply pss_cons
      · exact ps_if (PW.pt (pw_or (pt_cmpR (op_neD hr.units) (pv 3) (pe_listRg rfl (by rfl) T.free (prg_2 (by rfl) T.free pe_int pe_int)) (nomark _)) (pw_or (pt_cmpR op_ne (pe_callB call_len_seq (by rfl) T.free PySem.boot_len (pa_cons (SlX.pe_methSl0 (pv 2) (T.scls (x := "Sender")) (T.meth (x := "Sender") (m := "header")) FHd (hr.mono (by decide)) pass0) pa_nil)) pe_int (nomark _))
          (pw_or1 (pt_cmpR (op_neD hr.units) (SlX.pe_methSl0 (pv 2) (T.scls (x := "Sender")) (T.meth (x := "Sender") (m := "room")) FRm (hr.mono (by decide)) pass0) (pe_callB (call_sortS hr.units) (by rfl) T.free boot_sorted (pa_cons (pe_step (pv 1) (po_some pe_int) po_none (po_some pe_int)) pa_nil)) (nomark _)))))) (pss_one (ps_ret pe_bl)) pss_nil
      apply pss_cons
      · exact ps_if (PW.pt (pw_or (pt_cmpR op_ne (SlX.pe_methSl (pv 2) (T.scls (x := "Sender")) (T.meth (x := "Sender") (m := "lock")) FL (hr.mono (by decide)) pF (pa_cons pe_str pa_nil)) pe_int (nomark _))
          (pw_or1 (pt_cmpR op_ne (pe_callB call_len_seq (by rfl) T.free PySem.boot_len (pa_cons (SlX.pe_methSl0 (pv 2) (T.scls (x := "Sender")) (T.meth (x := "Sender") (m := "header")) FHd (hr.mono (by decide)) pass0) pa_nil)) pe_int (nomark _))))) (pss_one (ps_ret pe_bl)) pss_nil
      · exact pss_one (ps_ret (pe_and (pe_cmpR (op_eqD hr.units) (SlX.pe_methSl (pv 2) (T.scls (x := "Sender")) (T.meth (x := "Sender") (m := "keys")) FKy (hr.mono (by decide)) pF (pa_cons pe_str pa_nil)) (pe_listRg rfl (by rfl) T.free (prg_1 (by rfl) T.free pe_int)) (nomark _))
          (pe_one (pe_cmpR (op_eqD hr.units) (SlX.pe_methSl (pv 2) (T.scls (x := "Sender")) (T.meth (x := "Sender") (m := "who")) FWh (hr.mono (by decide)) pF (pa_cons pe_int pa_nil)) (pe_slice sl_tupA (SlX.pe_methSl (pv 2) (T.scls (x := "Sender")) (T.meth (x := "Sender") (m := "who")) FWh (hr.mono (by decide)) pF (pa_cons pe_int pa_nil)) po_none (po_some (pe_un un_neg pe_int))) (nomark _)))))
    case r =>
      obtain ⟨rfl, hQ⟩ := h
      refine ⟨by show 16 ≤ sizeLine; decide, fun p0 np0 => ?_⟩
      refine ⟨_, rfl, p0, _, rfl, .inl (.of upd_same), fun p1 np1 => ?_⟩
      generalize h2 : upd (upd H p0 _) p1 _ = H2
      have s2 : Same H H2 := by
        rw [← h2]
        exact same_new2 (same_new np0) np1
      have e1' : H2 p0 = some (.lst (wideL.map V.str)) := by
        rw [← h2]
        exact same_new np1 _ _ upd_same
      have e2 : H2 p1 = some (.lst (wideL.map V.str)) := by
        rw [← h2]
        exact upd_same
      clear h2
      refine ⟨fun m σ' H' => ∃ k pl vs kv, m + k = 4 ∧ σ' = [some (.ref pl), some (.ref p1), none, none, kv, none] ∧ Same H2 H' ∧ H' pl = some (.lst vs) ∧ DpAll K H' vs ((up k).map K90.T.data), ⟨4, 0, p0, _, none, rfl, rfl, .refl _, e1', DpAll.ofStrs _⟩, ?_⟩
      rintro m _ H' ⟨k, pl, vs, kv, hmk, rfl, sH, epl, hvs⟩
      have hlen := hvs.len
      rw [List.length_map, up_len k (by omega)] at hlen
      refine ⟨_, rfl, pl, _, rfl, .inl (.of epl), _, _, rfl, rfl, _, rfl, ?_⟩
      by_cases hk : k < 4
      · have hv1 : 2 ^ (4 - k) = 2 * 2 ^ (3 - k) := by rw [show 4 - k = (3 - k) + 1 by omega, Nat.pow_succ]; omega
        have hv2 : 0 < 2 ^ (3 - k) := Nat.pow_pos (by decide)
        have hv3 : 2 ^ (3 - k) ≤ 2 ^ 3 := Nat.pow_le_pow_right (by decide) (by omega)
        have hpl := pairs_len k hk
        rw [decide_eq_true (show (1 : Int) < ((vs.length : Nat) : Int) by omega)]
        refine iteT ⟨fun σ' H'' => ∃ pl' vs' kv', σ' = [some (.ref pl'), some (.ref p1), none, none, kv', none] ∧ Same H2 H'' ∧ H'' pl' = some (.lst vs') ∧ DpAll K H'' vs' ((up (k + 1)).map K90.T.data),
          fun σ' H'' ⟨pl', vs', kv', h1, h2, h3, h4⟩ => ⟨m - 1, by omega, k + 1, pl', vs', kv', by omega, h1, h2, h3, h4⟩, ?_⟩
        refine ⟨_, rfl, pl, _, rfl, .inl (.of epl), _, _, rfl, rfl, ⟨by omega, by omega⟩, ((vs.length : Nat) : Int) / 2, rfl, by omega, by omega, ?_⟩
        have en : (((vs.length : Nat) : Int) / 2).toNat = (pairs (up k)).length := by omega
        rw [en]
        refine comp_walk (K := K) walk_range (fun (i : Nat) => ((pairs (up k))[i]?).map K90.T.data) (fun _ _ => trivial) (fun D j x H11 H12 nD hj acc hyj => ?_) fun D H11 acc => ?_
        · obtain ⟨rfl, rfl⟩ := hyj
          have sA := acc.1
          have epl' := sA _ _ epl
          have hul : (up k).length = 2 ^ (4 - k) := up_len k (by omega)
          obtain ⟨ta, hta⟩ : ∃ ta, (up k)[2 * j]? = some ta := ⟨_, List.getElem?_eq_getElem (by omega)⟩
          obtain ⟨tb, htb⟩ : ∃ tb, (up k)[2 * j + 1]? = some tb := ⟨_, List.getElem?_eq_getElem (by omega)⟩
          obtain ⟨va, hva, dva⟩ := hvs.getD (i := 2 * j) (d := ta.data) (by rw [List.getElem?_map, hta]; rfl)
          obtain ⟨vb, hvb, dvb⟩ := hvs.getD (i := 2 * j + 1) (d := tb.data) (by rw [List.getElem?_map, htb]; rfl)
          have hpg := pairs_get (up k) j ta tb hta htb
          have e1 : (2 : Int) * (0 + (j : Int)) = ((2 * j : Nat) : Int) := by omega
          have e2 : (2 : Int) * (0 + (j : Int)) + 1 = ((2 * j + 1 : Nat) : Int) := by omega
          refine ⟨rfl, yes_t ⟨_, rfl, _, rfl, _, _, rfl, rfl, .inl ⟨by omega, by omega⟩, pl, vs, _, va, rfl, rfl, .of epl', by rw [e1]; exact atI_nat hva,
            _, rfl, _, rfl, _, _, rfl, rfl, .inl ⟨by omega, by omega⟩, _, _, rfl, rfl, pl, vs, _, vb, rfl, rfl, .of epl', by rw [e2]; exact atI_nat hvb, by show 2 ≤ sizeLine; decide, fun q nq => ?_⟩⟩
          have s9 := same_new (o := .tup [va, vb]) nq
          exact (acc.same s9).pushN (d := (K90.T.node ta tb).data) (by show ((pairs (up k))[j]?).map _ = _; rw [hpg]; rfl) (noL_T _) (.tupM upd_same (.cons (dva.same (sA.trans s9)) (.cons (dvb.same (sA.trans s9)) .nil))) (small1000 (by omega))
        · obtain ⟨items, eD, hI⟩ := acc.list
          exact ⟨D, items, _, rfl, sH.trans acc.1, eD, by
            have e : (List.range (pairs (up k)).length).filterMap (fun (i : Nat) => ((pairs (up k))[i]?).map K90.T.data) = (up (k + 1)).map K90.T.data := fm_map _ _
            rw [e] at hI
            exact hI⟩
      · have ek : k = 4 := by omega
        subst ek
        rw [show (2 : Nat) ^ (4 - 4) = 1 from rfl] at hlen
        rw [decide_eq_false (show ¬ (1 : Int) < ((vs.length : Nat) : Int) by omega)]
        refine iteF ?_
        rw [up4] at hvs
        obtain ⟨v0, rfl, dv0⟩ : ∃ v0, vs = [v0] ∧ Dp K H' v0 TW.data := by
          cases hvs with
          | cons h t => cases t; exact ⟨_, rfl, h⟩
        have mk : ∀ {Hx : Hp} {x dx : Addr} {Hy : Hp}, Hx x = none → Hx dx = none → Keep [x, dx] (upd (upd Hx dx (.own x)) x (.ins (CS K) dx [])) Hy → dx ≠ x → Same Hx Hy := fun nx nd k ne b u e => k b u (new_same nx nd b u e) (by simp [ne_of_none e nx, ne_of_none e nd])
        have s02 := s2.trans sH
        refine ⟨_, rfl, pl, _, 0, v0, rfl, rfl, .of epl, rfl, rfl, rfl, fun x dx nx nd ne => ?_⟩
        refine ⟨x, dx, v0, TW, 8, rfl, .mk ne, .of (dv0.same (new_same nx nd)) okTW, okXW, fun H4 lo ld k4 nlo nld A4 => ⟨rfl, ?_⟩⟩
        have s4 := mk nx nd k4 ne
        have sn := new_same (C := CS K) nx nd
        have zlo : H lo = none := s02.free (sn.free nlo)
        have zld : H ld = none := s02.free (sn.free nld)
        have e24 := (sH.trans s4) _ _ e2
        refine ⟨_, rfl, _, rfl, p1, _, rfl, .of e24, by decide, by decide +kernel, fun pe npe => ?_⟩
        have s5 := same_new (o := .lst (stepV (wideL.map V.str) none none (some 2))) npe
        have e5 : upd H4 pe (.lst (stepV (wideL.map V.str) none none (some 2))) pe = some (.lst (evL.map V.str)) := by rw [upd_same]; rfl
        generalize upd H4 pe (.lst (stepV (wideL.map V.str) none none (some 2))) = H5 at s5 e5 ⊢
        have A5 := A4.same s5
        have S5 := (s02.trans s4).trans s5
        have e25 := s5 _ _ e24
        refine ⟨pe, rfl, .inl ⟨⟨_, .of e5⟩, fun D nD => ?_⟩⟩
        have zD : H D = none := S5.free nD
        have neD := A5.ne nD
        have npeD : pe ≠ D := ne_of_none e5 nD
        have np1D : p1 ≠ D := ne_of_none e25 nD
        have hpe : pe ∉ [lo, ld, D] := by
          obtain ⟨⟨vs1, q1⟩, ws1, q2⟩ := A4.lists
          have a1 : pe ≠ lo := fun z => by rw [z, q1] at npe; cases npe
          have a2 : pe ≠ ld := fun z => by rw [z, q2] at npe; cases npe
          simp [a1, a2, npeD]
        have hp1 : p1 ∉ [lo, ld, D] := by
          have a1 : p1 ≠ lo := ne_of_none (sH _ _ e2) (sn.free nlo)
          have a2 : p1 ≠ ld := ne_of_none (sH _ _ e2) (sn.free nld)
          simp [a1, a2, np1D]
        refine lc_it (walk_list (K := K) (a := pe) (xs := evL.map V.str)) (fun i H => H D = some (.lst ((List.range i).map fun k => V.int ((k + 1 : Nat) : Int))) ∧ SAt K H x lo ld TW 8 (oW i) (dW i) ∧ Keep [lo, ld, D] H5 H)
          ⟨upd_same, A5.same (same_new nD), (Keep.of (.refl _) _).upd (.inr nD)⟩ (fun i H _ q => .of (q.2.2 _ _ e5 hpe)) (fun i y H6 H7 hi q yy => ?_) fun H6 q => ?_
        · obtain ⟨rfl, yy⟩ := yy
          obtain ⟨eD, A6, k6⟩ := q
          have hi : i < 8 := hi
          rw [List.getElem?_map, w_ev i hi] at yy
          cases yy
          obtain ⟨w1, ws1, g1⟩ := slt_of A6
          refine ⟨rfl, yes_t ⟨_, rfl, x, w1, ws1, rfl, g1, _, rfl, x, lo, ld, TW, 8, _, _, evA i, rfl, A6, by rw [oW_len]; omega, fun h => absurd (w_in i hi) h, fun _ => ⟨fun h => absurd h (w_no i hi), fun _ => ⟨fun h => absurd (w_cnt i hi) (Int.not_le.mpr h), fun _ H8 k8 A8 => ?_⟩⟩⟩⟩
          have eD8 := k8 _ _ eD (by simp [neD])
          refine ⟨_, eD8, small1000 (by rw [List.length_map, List.length_range]; omega), ?_, ?_, ?_⟩
          · rw [upd_same, dW_len, List.range_succ, List.map_append]; rfl
          · rw [show oW (i + 1) = oW i ++ [lockO (oW i) (evA i)] from rfl, dW_succ]
            exact A8.keep keep_one (.one eD8) (by simp [Ne.symm neD.1]) (by simp [Ne.symm neD.2])
          · exact (k6.trans (k8.mono (by simp))).trans (keep_one.mono (by simp))
        · obtain ⟨eD, A6, k6⟩ : H6 D = some (.lst ((List.range 8).map fun k => V.int ((k + 1 : Nat) : Int))) ∧ SAt K H6 x lo ld TW 8 (oW 8) (dW 8) ∧ Keep [lo, ld, D] H5 H6 := q
          have e26 := k6 _ _ e25 hp1
          have S6 : Same H H6 := same_keep S5 k6 (fun a ha => by
            simp only [List.mem_cons, List.not_mem_nil, or_false] at ha
            rcases ha with rfl | rfl | rfl <;> assumption)
          refine ⟨_, rfl, 1, 9, rfl, rfl, .of_le (by decide) (by decide) (by decide) (by decide), fun q7 nq7 => ?_⟩
          have s7 := same_new (o := .lst (rgV 1 9)) nq7
          have e7 : upd H6 q7 (.lst (rgV 1 9)) q7 = some (.lst (rgV 1 9)) := upd_same
          generalize upd H6 q7 (.lst (rgV 1 9)) = H7 at s7 e7 ⊢
          have A7 := A6.same s7
          have S7 := S6.trans s7
          have e27 := s7 _ _ e26
          refine ⟨.list ((List.range 8).map fun (k : Nat) => PyData.int ((k + 1 : Nat) : Int)), .list ((List.range 8).map fun (k : Nat) => PyData.int (1 + (k : Int))), .lstM (s7 _ _ eD) (DpAll.ofInts (fun (k : Nat) => ((k + 1 : Nat) : Int)) _), .lstM e7 (DpAll.ofInts (fun (k : Nat) => 1 + (k : Int)) _), by decide +kernel, by decide +kernel, _, rfl, ?_⟩
          rw [show (!PyData.eqv (.list ((List.range 8).map fun (k : Nat) => PyData.int ((k + 1 : Nat) : Int))) (.list ((List.range 8).map fun (k : Nat) => PyData.int (1 + (k : Int))))) = false from by decide +kernel]
          refine iteF ?_
          obtain ⟨w1, ws1, g1⟩ := slt_of A7
          refine ⟨_, rfl, x, w1, ws1, rfl, g1, x, lo, ld, TW, 8, _, _, rfl, A7, fun H8 v8 s8 d8 => ?_⟩
          obtain ⟨b8, xs8, rfl, hb8, hx8⟩ := d8.tupI
          refine ⟨b8, xs8, rfl, .inr hb8, rfl, _, rfl, ?_⟩
          rw [show xs8.length = 8 from hx8.len.trans w_8]
          refine iteF ?_
          have A8 := A7.same s8
          have S8 := S7.trans s8
          have e28 := s8 _ _ e27
          obtain ⟨w2, ws2, g2⟩ := slt_of A8
          refine ⟨_, rfl, x, w2, ws2, rfl, g2, x, lo, ld, TW, 8, _, _, rfl, A8, fun H9 lr s9 nlr e9 => ?_⟩
          rw [w_room] at e9
          refine ⟨_, rfl, _, rfl, _, rfl, p1, _, rfl, .of (s9 _ _ e28), by decide, by decide +kernel, fun q9 nq9 => ?_⟩
          have s10 := same_new (o := .lst (stepV (wideL.map V.str) (some 1) none (some 2))) nq9
          have e10 : upd H9 q9 (.lst (stepV (wideL.map V.str) (some 1) none (some 2))) q9 = some (.lst (odL.map V.str)) := by rw [upd_same]; rfl
          generalize upd H9 q9 (.lst (stepV (wideL.map V.str) (some 1) none (some 2))) = H10 at s10 e10 ⊢
          refine ⟨q9, odL, rfl, .inl (.of e10), by decide, fun r nr => ?_⟩
          have s11 := same_new (o := .lst ((sortS odL).map V.str)) nr
          have e11 : upd H10 r (.lst ((sortS odL).map V.str)) r = some (.lst ((sortS odL).map V.str)) := upd_same
          generalize upd H10 r (.lst ((sortS odL).map V.str)) = H11 at s11 e11 ⊢
          refine ⟨.list (strsD (sortS odL)), .list (strsD (sortS odL)), .lstM ((s10.trans s11) _ _ e9) (DpAll.ofStrs _), .lstM e11 (DpAll.ofStrs _), by decide +kernel, by decide +kernel, _, rfl, ?_⟩
          rw [show (!PyData.eqv (.list (strsD (sortS odL))) (.list (strsD (sortS odL)))) = false from by decide +kernel]
          refine iteF ?_
          have s811 := (s9.trans s10).trans s11
          have A11 := A8.same s811
          have S11 := S8.trans s811
          obtain ⟨w3, ws3, g3⟩ := slt_of A11
          refine ⟨_, rfl, x, w3, ws3, rfl, g3, x, lo, ld, TW, 8, _, _, "zz", rfl, A11, by rw [oW_len]; decide, fun h => absurd w_zin h, fun _ => ⟨fun h => absurd h w_zno, fun _ => ⟨fun h => absurd (by rw [w_7]; decide) (Int.not_le.mpr h), fun _ H12 k12 A12 => ?_⟩⟩⟩
          have S12 : Same H H12 := same_keep S11 k12 (fun a ha => by
            simp only [List.mem_cons, List.not_mem_nil, or_false] at ha
            rcases ha with rfl | rfl <;> assumption)
          refine ⟨rfl, _, rfl, ?_⟩
          rw [dW_len]
          refine iteF ?_
          have A12 : SAt K H12 x lo ld TW 8 o9 (dW 8 ++ [(("lock" : Str), ("zz" : Str))]) := A12
          obtain ⟨w4, ws4, g4⟩ := slt_of A12
          refine ⟨_, rfl, x, w4, ws4, rfl, g4, x, lo, ld, TW, 8, _, _, rfl, A12, fun H13 v13 s13 d13 => ?_⟩
          rw [w_9] at d13
          obtain ⟨b13, xs13, rfl, hb13, hx13⟩ := d13.tupI
          refine ⟨b13, xs13, rfl, .inr hb13, rfl, _, rfl, ?_⟩
          rw [show xs13.length = 7 from hx13.len.trans w_7]
          refine iteF ?_
          have A13 := A12.same s13
          have S13 := S12.trans s13
          obtain ⟨w5, ws5, g5⟩ := slt_of A13
          refine ⟨_, rfl, x, w5, ws5, rfl, g5, x, lo, ld, TW, 8, _, _, "zz", rfl, A13, fun h => absurd w_zin h, fun _ H14 l14 s14 n14 e14 => ?_⟩
          rw [w_keys] at e14
          refine ⟨9, rfl, .of_le (by decide) (by decide) (by decide) (by decide), fun q15 nq15 => ?_⟩
          have s15 := same_new (o := .lst (rgV 0 9)) nq15
          have e15 : upd H14 q15 (.lst (rgV 0 9)) q15 = some (.lst (rgV 0 9)) := upd_same
          generalize upd H14 q15 (.lst (rgV 0 9)) = H15 at s15 e15 ⊢
          refine ⟨.list ((List.range 9).map fun (k : Nat) => PyData.int (k : Int)), .list ((List.range 9).map fun (k : Nat) => PyData.int (0 + (k : Int))), .lstM (s15 _ _ e14) (DpAll.ofInts (fun (k : Nat) => (k : Int)) _), .lstM e15 (DpAll.ofInts (fun (k : Nat) => 0 + (k : Int)) _), by decide +kernel, by decide +kernel, ?_⟩
          rw [show PyData.eqv (.list ((List.range 9).map fun (k : Nat) => PyData.int (k : Int))) (.list ((List.range 9).map fun (k : Nat) => PyData.int (0 + (k : Int)))) = true from by decide +kernel]
          have A15 := A13.same (s14.trans s15)
          have S15 := S13.trans (s14.trans s15)
          refine ⟨_, rfl, iteT ?_⟩
          have l9 : o9.length = 10 := rfl
          obtain ⟨w6, ws6, g6⟩ := slt_of A15
          refine ⟨_, rfl, x, w6, ws6, rfl, g6, x, lo, ld, TW, 8, _, _, 9, rfl, A15, fun h => absurd ⟨by decide, by rw [l9]; decide⟩ h, fun k ek hk H16 v16 s16 d16 => ?_⟩
          have ek : k = 9 := by omega
          subst ek
          have A16 := A15.same s16
          have S16 := S15.trans s16
          obtain ⟨w7, ws7, g7⟩ := slt_of A16
          refine ⟨_, rfl, x, w7, ws7, rfl, g7, x, lo, ld, TW, 8, _, _, 8, rfl, A16, fun h => absurd ⟨by decide, by rw [l9]; decide⟩ h, fun k ek hk H17 v17 s17 d17 => ?_⟩
          have ek : k = 8 := by omega
          subst ek
          have S17 := S16.trans s17
          obtain ⟨b17, xs17, rfl, hb17, hx17⟩ := d17.tupI
          have lx : xs17.length = 8 := by rw [hx17.len, List.length_map, w_wlen]
          refine ⟨_, rfl, _, rfl, b17, xs17, rfl, hb17, fun h => absurd h.2 (by rw [lx]; decide), fun _ q18 nq18 => ?_⟩
          rw [cut_butlast]
          have s18 := same_new (o := .tup xs17.dropLast) nq18
          refine ⟨outD (restL TW (o9.getD 9 [])), outD (restL TW (o9.getD 8 [])).dropLast, d16.same (s17.trans s18), .tupM upd_same (by rw [List.map_dropLast]; exact (hx17.same s18).dropLast), by decide +kernel, by decide +kernel, ?_⟩
          rw [show PyData.eqv (outD (restL TW (o9.getD 9 []))) (outD (restL TW (o9.getD 8 [])).dropLast) = true from by decide +kernel]
          exact hQ _ (S17.trans s18)
end
end K90
end

section
set_option Elab.async false
set_option linter.all false
set_option maxRecDepth 100000
set_option maxHeartbeats 4000000
/-! when two Senders' states are equal -/
namespace K90
open PySem PySem.Spec PyProof.Rows L2
theorem eqvAll_len : ∀ xs ys : List PyData, PyData.eqvAll xs ys = true → xs.length = ys.length
  | [], [], _ => rfl
  | [], y :: ys, h => by simp [PyData.eqvAll] at h
  | x :: xs, [], h => by simp [PyData.eqvAll] at h
  | x :: xs, y :: ys, h => by
    have h2 : PyData.eqv x y = true ∧ PyData.eqvAll xs ys = true := by simpa [PyData.eqvAll] using h
    have e := eqvAll_len xs ys h2.2
    simp [e]
theorem eqv_size : ∀ t t' : K90.T, PyData.eqv t.data t'.data = true → t.size = t'.size
  | .leaf _, .leaf _, _ => rfl
  | .leaf x, .node l r, h => by simp [K90.T.data, PyData.eqv] at h
  | .node l r, .leaf x, h => by simp [K90.T.data, PyData.eqv] at h
  | .node l r, .node l' r', h => by
    have h2 : PyData.eqv l.data l'.data = true ∧ PyData.eqv r.data r'.data = true := by simpa [K90.T.data, PyData.eqv, PyData.eqvAll] using h
    have a := eqv_size l l' h2.1
    have b := eqv_size r r' h2.2
    show l.size + r.size = l'.size + r'.size
    rw [a, b]
theorem eqSt_refl {t : K90.T} {cap : Int} {outs : List (List Str)} {deeds : List (Str × Str)} (h : SOk t outs deeds) : eqSt t cap deeds t cap deeds = true := by
  refine SeqAt.eqv_refl _ ?_
  show (t.data.canLay0 && (true && (PyData.canLayAll0 (deeds.map deedD) && true))) = true
  rw [lay_T t h.okx, lay_deeds deeds fun p hp => ⟨(h.dd p hp).1, h.okx _ (h.dd p hp).2⟩]
  rfl
theorem eqSt_parts {t t' : K90.T} {cap cap' : Int} {ds ds' : List (Str × Str)} (h : eqSt t cap ds t' cap' ds' = true) : PyData.eqv t.data t'.data = true ∧ cap = cap' ∧ ds.length = ds'.length := by
  unfold eqSt stD at h
  have h2 : PyData.eqv t.data t'.data = true ∧ cap = cap' ∧ PyData.eqvAll (ds.map deedD) (ds'.map deedD) = true := by simpa [PyData.eqv, PyData.eqvAll] using h
  have e := eqvAll_len _ _ h2.2.2
  rw [List.length_map, List.length_map] at e
  exact ⟨h2.1, h2.2.1, e⟩
theorem eqSt_ne {t t' : K90.T} {cap cap' : Int} {ds ds' : List (Str × Str)} (h : t.size ≠ t'.size ∨ cap ≠ cap' ∨ ds.length ≠ ds'.length) : eqSt t cap ds t' cap' ds' = false := by
  cases c : eqSt t cap ds t' cap' ds' with
  | false => rfl
  | true =>
    obtain ⟨h1, h2, h3⟩ := eqSt_parts c
    rcases h with h | h | h
    · exact absurd (eqv_size _ _ h1) h
    · exact absurd h2 h
    · exact absurd h3 h
theorem keep_drop {H H' : Hp} {l m : List Addr} (k : Keep m H H') (n : ∀ a ∈ m, a ∈ l ∨ H a = none) : Keep l H H' := fun b o e nb => k b o e fun hm => by
  rcases n b hm with h | h
  · exact nb h
  · rw [h] at e
    cases e
theorem ty_T {K : PySem.W.Frag} {mg : Str → Option Value} (T : Txt K mg) {H : Hp} {v : V} {t : K90.T} (h : Dp K H v t.data) : ∃ tt, TyX K H v tt ∧ PySem.W.notFirst K (CS K) tt = true ∧ PySem.W.kitOne K tt (.ref (CS K)) = some false := by
  obtain ⟨n, h1, h2⟩ := ty_dp h
  cases t with
  | leaf x =>
    cases h1
    exact ⟨_, h2, T.sne.str, T.sne.kstr⟩
  | node l r =>
    cases h1
    exact ⟨_, h2, T.sne.tup, T.sne.ktup⟩
end K90
end

section
set_option Elab.async false
set_option linter.all false
set_option maxRecDepth 100000
set_option maxHeartbeats 4000000
/-! xs[:] = ys of another list -/
namespace K90
open PySem PySem.Spec PyProof.Rows L2
section
variable {prog : Program} {w : World} {A : Around} {E : Value → Shared → Prop} {s : Shared}
theorem bounds_all (n : Nat) : sliceBounds none none none n = ((0 : Int), (n : Int), 1) := by
  simp only [sliceBounds, Option.getD_none]
  rfl
theorem whole_eq (its its2 : List Value) : its.toArray.extract 0 0 ++ its2.toArray ++ its.toArray.extract its.length its.toArray.size = its2.toArray := by
  apply Array.toList_inj.mp
  simp
theorem setItem_all {l b sl : Addr} {its new : List Value} {n n2 : Nat} {Q : Unit → Shared → Prop}
    (e : s.heap.get? l = some { cls := .type "list", data := .seq its.toArray n }) (e2 : s.heap.get? b = some { cls := .type "list", data := .seq new.toArray n2 }) (hne : l ≠ b)
    (hs : s.heap.IsSliceOf sl .none .none .none) (hsz : its.length + new.length ≤ sizeLine)
    (h : Q () { s with heap := s.heap.update l (Obj.mapSeq fun xs => xs.extract 0 0 ++ new.toArray ++ xs.extract its.length xs.size) }) : wpAny (model prog w) A (setItem (.ref l) (.ref sl) (.ref b)) Q E s := by
  have hl : s.heap.IsList l its.toArray := PySem.IsL.isList e
  have hb : s.heap.IsList b new.toArray := PySem.IsL.isList e2
  have hsz' : its.toArray.size + new.toArray.size ≤ sizeLine := by rw [List.size_toArray, List.size_toArray]; exact hsz
  obtain ⟨os, ho1, ho2, ho3⟩ := id hs
  have tS : s.TypeIs (.ref sl) "slice" := ⟨os, ho1, ho2⟩
  have no0 : ¬ ((rawPart none == rawInt 0) = true) := Bool.false_ne_true
  have diff : Builtin.List.listSameRef (.ref l) (.ref b) = false := by
    unfold Builtin.List.listSameRef
    exact beq_eq_false_iff_ne.mpr hne
  have mx : (max (0 : Int) ((its.toArray.size : Nat) : Int)).toNat = its.length := by
    rw [List.size_toArray]
    omega
  unfold setItem
  try with_reducible refine wpAny_holding ?_
  first | refine wpAny_bind (wpAny_pure ?_) | skip
  refine wpAny_bind (wpAny_sequenceKey hl.typeIs (by decide) ?_)
  refine wpAny_bind (wpAny_callSpecial?_slot (name := Str.ofString "__setitem__") hl.typeIs slot_list_setitem (wpAny_call_entry slot_list_setitem hl.typeIs entry_list_setitem ?_ (args_list_setitem _ _ _)))
  show wpAny _ _ (Builtin.List.listSubscript? (.ref sl) >>= _) _ _ s
  refine wpAny_bind ?_
  unfold Builtin.List.listSubscript?
  refine wpAny_bind (wpAny_specialOf tS slice_no_index ?_)
  simp only [Option.isNone_none, if_true]
  refine wpAny_pure ?_
  show wpAny _ _ (typeOf (.ref sl) >>= _) _ _ s
  refine wpAny_bind (wpAny_typeOf tS ?_)
  first
    | rw [if_neg (by decide)]
    | refine PySem.W.KFB.if_not (by decide) ?_
  rw [listSliceParts_eq]
  refine wpAny_bind (wpAny_bind (wpAny_field ho1 ho3 (x := .none) rfl (wpAny_bind (wpAny_listPart .none ?_))))
  rw [if_neg no0]
  refine wpAny_bind (wpAny_field ho1 ho3 (x := .none) rfl (wpAny_bind (wpAny_listPart .none ?_)))
  refine wpAny_bind (wpAny_field ho1 ho3 (x := .none) rfl (wpAny_bind (wpAny_listPart .none (wpAny_pure ?_))))
  first
    | simp only [diff, Bool.false_eq_true, if_false]
    | refine PySem.W.KFB.if_not diff ?_
    | (dsimp only
       rw [if_neg (by rw [diff]; exact Bool.false_ne_true)])
  refine wpAny_bind (m := Builtin.List.listAllItems (.ref b) "must assign iterable to extended slice") ?_
  unfold Builtin.List.listAllItems
  refine wpAny_bind (wpAny_typeOf hb.typeIs ?_)
  first
    | refine PySem.W.KFB.if_so (by decide) ?_
    | rw [if_pos (by decide)]
    | simp only [beq_self_eq_true, Bool.true_or, if_true]
  unfold Builtin.List.listItems
  refine wpAny_bind (wpAny_seqItems e2 rfl (wpAny_pure ?_))
  refine wpAny_bind (wpAny_bind (wpAny_seqItems e rfl (wpAny_pure ?_)))
  refine wpAny_bind (wpAny_of_eq ((sliceIndices_raw none none none its.toArray.size (by simp)).trans (congrArg (pure : Int × Int × Int → Sem (Int × Int × Int)) (bounds_all its.toArray.size))) ?_)
  show wpAny _ _ (if ((1 : Int) == 1) = true then _ else _) _ _ s
  rw [if_pos (by decide)]
  refine wpAny_bind (wpAny_rule ?_)
  first
    | simp only [notLongL hsz', Bool.false_eq_true, if_false]
    | refine PySem.W.KFB.if_not (notLongL hsz') ?_
  first | refine wpAny_bind (wpAny_pure ?_) | skip
  show wpAny _ _ (updateSeq l (fun xs => xs.extract 0 ((0 : Int)).toNat ++ new.toArray ++ xs.extract (max (0 : Int) ((its.toArray.size : Nat) : Int)).toNat xs.size) >>= _) _ _ s
  rw [mx, show ((0 : Int)).toNat = 0 from rfl]
  refine wpAny_bind (wpAny_updateSeq (hz := Nat.le_trans (Nat.le_add_right _ _) hsz') (_hz' := by simp only [whole_eq]; omega) e rfl ?_)
  refine wpAny_bind (wpAny_letGo ?_)
  first
    | exact wpAny_bind (wpAny_pure (wpAny_pure ⟨.none, rfl, wpAny_pure h⟩))
    | exact wpAny_pure ⟨.none, rfl, wpAny_pure h⟩
end
section
variable {X : Cx}
theorem set_all {pins : List (Addr × Obj)} {s : Shared} {σ : L2.St} {H : Hp} {l b sl : Addr} {xs ys : List V} {Q : Unit → Shared → Prop} (I : Inv X pins σ H s)
    (hH : H l = some (.lst xs)) (hB : H b = some (.lst ys)) (hne : l ≠ b) (hs : s.heap.IsSliceOf sl .none .none .none) (hz : xs.length + ys.length ≤ sizeLine)
    (h : ∀ s', Inv X pins σ (upd H l (.lst ys)) s' → Q () s') : wpAny (model X.prog X.w) X.A (setItem (.ref l) (.ref sl) (.ref b)) Q X.xe s := by
  obtain ⟨z, its, n, r, hl, e⟩ := I.lstM hH
  obtain ⟨z2, its2, n2, r2, hl2, e2⟩ := I.lstM hB
  have l1 := r.length
  have l2 := r2.length
  exact setItem_all e e2 hne hs (by omega) (h _ (I.lset (its' := its2) (t' := s.toks) hH e (whole_eq its its2) r2 (by omega)))
def gAll (to : TE) : TG := fun v σ H Q => to σ H fun o H1 => ∃ l b xs ys, o = .ref l ∧ v = .ref b ∧ H1 l = some (.lst xs) ∧ H1 b = some (.lst ys) ∧ l ≠ b ∧ xs.length + ys.length ≤ sizeLine ∧ Q σ (upd H1 l (.lst ys))
theorem pg_all {o : Expr} {p2 pos : Pos} {to : TE} (ho : PE X o to)
    (ha : ∀ v, assign (.Subscript o (.Slice none none none p2) pos) X.env v = (do
      let ov ← holding [v] (eval o X.env)
      let iv ← holding [v, ov] (eval (.Slice none none none p2) X.env)
      standAt pos
      holding [v, ov, iv] (setItem ov iv v)
      release [iv, v, ov] []) := by intro _; rfl) : PG X (.Subscript o (.Slice none none none p2) pos) (gAll to) := by
  refine ⟨fun pins s σ H v u Q I r h => ?_⟩
  rw [ha]
  refine wpAny_bind (wpAny_holding (thn (ho.run pins s σ H _ I h) fun ov s1 ⟨x, H1, I1, r1, q1⟩ => ?_))
  obtain ⟨l, b, xs, ys, rfl, rfl, hl, hb, ne, hz, q⟩ := q1
  cases r1
  cases r
  refine wpAny_bind (wpAny_holding (wpAny_Slice ?_))
  rw [evalPart_none]
  refine wpAny_pure (wpAny_pure (wpAny_pure ?_))
  have I2 : Inv X pins σ H1 { s1 with heap := s1.heap.push { cls := .type "slice", data := .fields #[.none, .none, .none] } } := I1.kept (t' := s1.toks) fun b ob q => Heap.get?_push_of_some _ q
  refine wpAny_bind (wpAny_standAt (wpAny_bind (wpAny_holding (set_all I2 hl hb ne (Heap.IsSliceOf.new ..) hz fun s' I' => ?_))))
  exact wpAny_release ⟨σ, _, I', q⟩
end
end K90
end

section
set_option Elab.async false
set_option linter.all false
set_option maxRecDepth 100000
set_option maxHeartbeats 4000000
/-! what stands in the turns of the law's right -/
namespace K90
open PySem PySem.Spec PyProof.Rows L2
theorem lstN_T : ∀ (t : K90.T) (n m : Nat), t.dp ≤ n → t.dp ≤ m → smD m (lstN n t.data) = true ∧ tupN m (lstN n t.data) = t.data
  | .leaf x, n, m, _, _ => by
    have e : lstN n (K90.T.leaf x).data = (K90.T.leaf x).data := lstN_flat rfl
    rw [e]
    exact ⟨smD_mono (Nat.zero_le m) rfl, tupN_flat rfl⟩
  | .node l r, 0, m, h, _ => absurd h (by show ¬ max l.dp r.dp + 1 ≤ 0; omega)
  | .node l r, n + 1, 0, _, h => absurd h (by show ¬ max l.dp r.dp + 1 ≤ 0; omega)
  | .node l r, n + 1, m + 1, h, h' => by
    have g : max l.dp r.dp + 1 ≤ n + 1 := h
    have g' : max l.dp r.dp + 1 ≤ m + 1 := h'
    obtain ⟨a1, a2⟩ := lstN_T l n m (by omega) (by omega)
    obtain ⟨b1, b2⟩ := lstN_T r n m (by omega) (by omega)
    show (decide (2 ≤ 1000) && (smD m (lstN n l.data) && (smD m (lstN n r.data) && true))) = true ∧ PyData.tuple [tupN m (lstN n l.data), tupN m (lstN n r.data)] = PyData.tuple [l.data, r.data]
    rw [a1, a2, b1, b2]
    exact ⟨rfl, rfl⟩
theorem smD_lst {t : K90.T} (h : t.dp ≤ 10) : smD 12 (.list [t.data]) = true := by
  show (decide (1 ≤ 1000) && (smD 11 t.data && true)) = true
  rw [smD_mono (Nat.le_trans h (by decide)) (smD_T t)]
  rfl
theorem pool_ok (x : Str) (hx : x ∈ poolL) : PyData.strOk x = true := by
  have : (poolL.all fun x => PyData.strOk x) = true := by decide +kernel
  exact List.all_eq_true.mp this x hx
theorem pool_nobody : ("nobody" : Str) ∉ poolL := by decide +kernel
theorem w_ok : PyData.strOk "w" = true := by decide +kernel
/-- the rows' Nodup goes on -/
theorem deed_nodup {t : K90.T} {cap : Int} {outs os : List (List Str)} {word x : Str} (h : deedR t cap outs word x = .inr os) (hw : word = "lock" ∨ word = "let" ∨ word = "undo") (hn : ∀ o ∈ outs, o.Nodup) (hp : 0 < outs.length) : ∀ o ∈ os, o.Nodup := by
  have hl : lastO outs ∈ outs := by
    obtain ⟨l, e⟩ := last_split' hp
    rw [e]
    simp [lastO]
  rcases hw with rfl | rfl | rfl
  · by_cases hx : x ∈ t.leaves
    · by_cases ho : x ∈ lastO outs
      · rw [deedR_lock_out hx ho] at h
        cases h
      · rw [deedR_lock hx ho] at h
        split at h
        · cases h
        · cases h
          intro o hm
          rcases List.mem_append.mp hm with hm | hm
          · exact hn o hm
          · rw [List.mem_singleton.mp hm]
            unfold lockO
            refine (sortS_perm _).nodup_iff.mpr ?_
            rw [List.nodup_append]
            exact ⟨hn _ hl, by simp, fun a ha b hb => by rw [List.mem_singleton.mp hb]; exact fun z => ho (z ▸ ha)⟩
    · rw [deedR_box (by decide) hx] at h
      cases h
  · by_cases hx : x ∈ t.leaves
    · by_cases ho : x ∈ lastO outs
      · rw [deedR_let hx ho] at h
        split at h
        · cases h
        · cases h
          intro o hm
          rcases List.mem_append.mp hm with hm | hm
          · exact hn o hm
          · rw [List.mem_singleton.mp hm]
            exact (hn _ hl).sublist List.filter_sublist
      · rw [deedR_let_in hx ho] at h
        cases h
    · rw [deedR_box (by decide) hx] at h
      cases h
  · rw [deedR_undo] at h
    split at h
    · cases h
    · cases h
      exact fun o hm => hn o (List.dropLast_subset _ hm)
theorem deed_len {t : K90.T} {cap : Int} {outs os : List (List Str)} {word x : Str} (h : deedR t cap outs word x = .inr os) (hw : word = "lock" ∨ word = "let" ∨ word = "undo") : os.length ≤ outs.length + 1 := by
  rcases hw with rfl | rfl | rfl
  · by_cases hx : x ∈ t.leaves
    · by_cases ho : x ∈ lastO outs
      · rw [deedR_lock_out hx ho] at h
        cases h
      · rw [deedR_lock hx ho] at h
        split at h
        · cases h
        · cases h
          simp
    · rw [deedR_box (by decide) hx] at h
      cases h
  · by_cases hx : x ∈ t.leaves
    · by_cases ho : x ∈ lastO outs
      · rw [deedR_let hx ho] at h
        split at h
        · cases h
        · cases h
          simp
      · rw [deedR_let_in hx ho] at h
        cases h
    · rw [deedR_box (by decide) hx] at h
      cases h
  · rw [deedR_undo] at h
    split at h
    · cases h
    · cases h
      rw [List.length_dropLast]
      omega
theorem refD_sm (r : Ref) (x : Str) : smD 3 (refD r x) = true := by cases r <;> rfl
theorem outD_sm (o : List Str) (h : o.length ≤ 1000) : smD 3 (outD o) = true := by
  show (decide ((o.map PyData.str).length ≤ 1000) && (o.map PyData.str).all (smD 2)) = true
  rw [all_smD_str, List.length_map, decide_eq_true h]
  rfl
theorem deedsR_len {word x : Str} {deeds : List (Str × Str)} (h : word = "undo" → 0 < deeds.length) : (deedsR word x deeds).length ≠ deeds.length := by
  unfold deedsR
  split
  · have := h ‹_›
    rw [List.length_dropLast]
    omega
  · rw [List.length_append]
    simp
theorem dif_free {H H' : Hp} {b : Addr} {o : HO} (h : dif H H' b = some o) : H b = none := by
  unfold dif at h
  split at h
  · assumption
  · cases h
structure TF (K : PySem.W.Frag) (H0 H' : Hp) (u p lo ld lr row : Addr) (vt : V) (t : K90.T) (cap : Int) (n : Nat) (outs : List (List Str)) (deeds : List (Str × Str)) : Prop where
  k : Keep [u, lo, ld] H0 H'
  ht : Dp K H' vt t.data
  hs : SAt K H' p lo ld t cap outs deeds
  hr : RowsAt K H' lr outs
  hu : UrnAt H' u n
  row : H' row = some (.lst (t.leaves.map V.str))
section
variable {K : PySem.W.Frag} {H0 H1 H2 : Hp} {u p lo ld lr row : Addr} {vt : V} {t : K90.T} {cap : Int} {n m : Nat} {outs : List (List Str)} {deeds : List (Str × Str)}
theorem TF.same (h : TF K H0 H1 u p lo ld lr row vt t cap n outs deeds) (s : Same H1 H2) : TF K H0 H2 u p lo ld lr row vt t cap n outs deeds :=
  ⟨h.k.trans (.of s _), h.ht.same s, h.hs.same s, h.hr.same s, h.hu.same s, s _ _ h.row⟩
theorem TF.keepU (h : TF K H0 H1 u p lo ld lr row vt t cap n outs deeds) (k : Keep [u] H1 H2) (hu : UrnAt H2 u m) (n1 : lo ≠ u) (n2 : ld ≠ u) (n3 : lr ≠ u) (n4 : row ≠ u) : TF K H0 H2 u p lo ld lr row vt t cap m outs deeds :=
  ⟨h.k.trans (k.mono (by simp)), h.ht.keep k h.hu.soft.noTup (noL_T t), h.hs.keep k h.hu.soft (by simpa using n1) (by simpa using n2), h.hr.keep k h.hu.soft (by simpa using n3), hu, k _ _ h.row (by simpa using n4)⟩
theorem TF.deed {os : List (List Str)} {ds : List (Str × Str)} (h : TF K H0 H1 u p lo ld lr row vt t cap n outs deeds) (k : Keep [lo, ld] H1 H2) (hs : SAt K H2 p lo ld t cap os ds) (n1 : u ∉ [lo, ld]) (n3 : lr ∉ [lo, ld]) (n4 : row ∉ [lo, ld]) :
    Keep [u, lo, ld] H0 H2 ∧ Dp K H2 vt t.data ∧ SAt K H2 p lo ld t cap os ds ∧ RowsAt K H2 lr outs ∧ UrnAt H2 u n ∧ H2 row = some (.lst (t.leaves.map V.str)) :=
  ⟨h.k.trans (k.mono (by simp)), h.ht.keep k h.hs.soft.noTup (noL_T t), hs, h.hr.keep k h.hs.soft n3, h.hu.keep k n1, k _ _ h.row n4⟩
end
theorem join_if {c : Bool} {tb : TS} {D : Ends} {σ : L2.St} {H : Hp} {F : Hp → Prop} (hR : ∀ Hx, F Hx → D.nx σ Hx) (ha : c = true → (∀ Hx, F Hx → D.nx σ Hx) → tb D σ H) (hb : c = false → F H) : if c = true then tb D σ H else tNext D σ H := by
  cases c with
  | true => exact iteT (ha rfl hR)
  | false => exact iteF (hR _ (hb rfl))
end K90
end

section
set_option Elab.async false
set_option linter.all false
set_option maxRecDepth 100000
set_option maxHeartbeats 4000000
/-! the law's right -/
namespace K90
open PySem PySem.Spec PyProof.Rows L2
def spRight (K : PySem.W.Frag) : Sp := fun vs H Q _ => ∃ (u : Addr) (n : Nat), vs = [.ref u] ∧ UrnAt H u n ∧ n + 200 < 2 ^ 30 ∧ ∀ H', Keep [u] H H' → Q (.bl true) H'
section
variable {w : World} {K : PySem.W.Frag} {mg : Str → Option Value} {base : Heap}
theorem ok_L_right (T : Txt K mg) : FnX w K mg base CX0 40 ("_law_right", none) (spRight K) := by
  obtain ⟨fdI, SIi⟩ := ok_S_init (w := w) (base := base) T
  obtain ⟨itsI, kI⟩ := SIi.k1
  have FTl := ok_L_tale (w := w) (base := base) T
  have FTk := ok_L_take (w := w) (base := base) T
  have FOf := ok_L_of (w := w) (base := base) T
  have FLs := ok_L_listsL (w := w) (base := base) T 12
  have FLv := ok_L_leaves (w := w) (base := base) T 20
  have FTd := ok_L_told (w := w) (base := base) T
  have FSm := ok_L_same (w := w) (base := base) T 3
  have FDn := ok_L_done (w := w) (base := base) T
  have FDu := ok_L_due (w := w) (base := base) T
  have FNb := ok_L_no_box (w := w) (base := base) T
  have FNk := ok_L_no_key (w := w) (base := base) T
  have FO := ok_S_out (w := w) (base := base) T
  have FTw := ok_S_twin (w := w) (base := base) T
  refine fnr (ps := ["_law_urn"]) (T.fn 52) sc_L_right ?ln ?bd (fun _ _ _ _ _ _ us hl => match us, hl with | [_], _ => rfl)
  case ln =>
    rintro _ _ _ _ ⟨u, n, rfl, _⟩
    rfl
  case bd =>
    intro cdv A outer s H vs Q E hr h
    apply bodyN
    case h =>
      apply pss_cons
      · exact (ps_set (i := 1) sc_L_right.nd rfl (.inl rfl) (pe_cR FTl (hr.mono (by decide)) (by rfl) T.glo (T.kp (d := d_L_tale) 41) pass0 (pa_cons (pv 0) (pa_cons pe_int pa_nil))))
      apply pss_cons
      · exact (ps_set (i := 2) sc_L_right.nd rfl (.inl rfl) (pe_op op_add pe_int (pe_cR FTk (hr.mono (by decide)) (by rfl) T.glo (T.kp (d := d_L_take) 34) pass0 (pa_cons (pv 0) (pa_cons pe_int pa_nil)))))
      apply pss_cons
      · exact (ps_set (i := 3) sc_L_right.nd rfl (.inl rfl) (pe_cR FLs (hr.mono (by decide)) (by rfl) T.glo (T.kp (d := d_L_lists) 37) pass0 (pa_cons (pe_lst (pa_cons (pv 1) pa_nil)) pa_nil)))
      apply pss_cons
      · exact (ps_par3 (i := 4) (j := 5) (l := 6) (by rfl) sc_L_right.nd rfl rfl rfl (by decide) (by decide) (by decide) rfl rfl rfl (pa_cons (pe_makeK (T.mkr (x := "Sender")) SIi.ok (hr.mono (by decide)) (by rfl) T.glo kI pass0 (pa_cons (pe_ix ix_list (pv 3) pe_int (fun _ _ => rfl)) pa_nil) (pk_cons (pv 2) pk_nil)) (pa_cons (pe_lst (pa_cons (pe_tup pa_nil) pa_nil)) (pa_cons (pe_cR FLv (hr.mono (by decide)) (by rfl) T.glo (T.kp (d := d_L_leaves) 42) pass0 (pa_cons (pv 1) pa_nil)) pa_nil))) (by rfl))
      apply pss_cons
      · exact (ps_if (PW.pt (pw_or (pt_cmpR (sNeK T rfl rfl rfl rfl rfl (hr.mono (by decide))) (pv 4) (pe_make (T.mkr (x := "Sender")) SIi.ok (hr.mono (by decide)) (by rfl) T.glo SIi.b3 .nil pass0 (pa_cons (pv 1) (pa_cons (pv 2) pa_nil))) (nomark _)) (pw_or1 (pt_not (pt_val (pe_cR FTd (hr.mono (by decide)) (by rfl) T.glo (T.kp (d := d_L_told_right) 47) pass0 (pa_cons (pv 1) (pa_cons (pv 2) (pa_cons (pv 4) (pa_cons (pv 5) pa_nil)))))))))) (pss_one (ps_ret pe_bl)) pss_nil)
      apply pss_cons
      · exact (ps_if (PW.pt (pw_or (pt_cmpR (sEqK (n := 0) T rfl rfl rfl rfl rfl (hr.mono (by decide))) (pv 4) (pe_make (T.mkr (x := "Sender")) SIi.ok (hr.mono (by decide)) (by rfl) T.glo SIi.b3 .nil pass0 (pa_cons (pv 1) (pa_cons (pe_op op_add (pv 2) pe_int) pa_nil))) (nomark _)) (pw_or (pt_cmpR (sEqK (n := 0) T rfl rfl rfl rfl rfl (hr.mono (by decide))) (pv 4) (pe_make (T.mkr (x := "Sender")) SIi.ok (hr.mono (by decide)) (by rfl) T.glo SIi.b3 .nil pass0 (pa_cons (pe_tup (pa_cons (pv 1) (pa_cons pe_str pa_nil))) (pa_cons (pv 2) pa_nil))) (nomark _)) (pw_or1 (pt_cmpR (sEqK (n := 0) T rfl rfl rfl rfl rfl (hr.mono (by decide))) (pv 4) (pv 1) (nomark _)))))) (pss_one (ps_ret pe_bl)) pss_nil)
      apply pss_cons
      · exact (ps_if (pt_cmpR op_gt (pe_callB call_len_seq (by rfl) T.free PySem.boot_len (pa_cons (pv 6) pa_nil)) pe_int (nomark _)) (pss_one (ps_asg (pe_lst (pa_cons pe_str (pa_cons pe_str pa_nil))) (pg_all (pe_ix ix_list (pv 3) pe_int (fun _ _ => rfl))))) pss_nil)
      apply pss_cons
      · apply ps_for PassesOwn.never rfl
        · exact pi_range1 (by rfl) T.free (pa_cons pe_int pa_nil)
        · exact pg_name (i := 7) sc_L_right.nd rfl (.inl rfl)
        · apply pss_cons
          · exact (ps_par (i := 8) (j := 9) (by rfl) sc_L_right.nd rfl rfl (by decide) rfl rfl (pa_cons (pe_cR FOf (hr.mono (by decide)) (by rfl) T.glo (T.kp (d := d_L_of) 36) pass0 (pa_cons (pv 0) (pa_cons (pe_lst (pa_cons pe_str (pa_cons pe_str (pa_cons pe_str (pa_cons pe_str (pa_cons pe_str pa_nil)))))) pa_nil))) (pa_cons (pe_cR FOf (hr.mono (by decide)) (by rfl) T.glo (T.kp (d := d_L_of) 36) pass0 (pa_cons (pv 0) (pa_cons (pe_op op_cat (pe_op op_cat (pv 6) (pv 6)) (pe_lst (pa_cons pe_str pa_nil))) pa_nil))) pa_nil)) (by rfl))
          apply pss_cons
          · exact (ps_set (i := 10) sc_L_right.nd rfl (.inl rfl) (SlX.pe_methSl0 (pv 4) (T.scls (x := "Sender")) (T.meth (x := "Sender") (m := "twin")) FTw (hr.mono (by decide)) pass0))
          apply pss_cons
          · exact (ps_if (PW.pt (pw_or (pt_cmpR (sNeK T rfl rfl rfl rfl rfl (hr.mono (by decide))) (pv 10) (pv 4) (nomark _)) (pw_or1 (pt_not (pt_cmpR (sEqK (n := 0) T rfl rfl rfl rfl rfl (hr.mono (by decide))) (pv 10) (pv 4) (nomark _)))))) (pss_one (ps_ret pe_bl)) pss_nil)
          apply pss_cons
          · exact (ps_par (i := 11) (j := 12) (by rfl) sc_L_right.nd rfl rfl (by decide) rfl rfl (pa_cons (pe_cR FDn (hr.mono (by decide)) (by rfl) T.glo (T.kp (d := d_L_done) 45) pF (pa_cons (pv 4) (pa_cons (pv 8) (pa_cons (pv 9) pa_nil)))) (pa_cons (pe_cR FDu (hr.mono (by decide)) (by rfl) T.glo (T.kp (d := d_L_due_deed) 46) pass0 (pa_cons (pv 1) (pa_cons (pv 2) (pa_cons (pv 5) (pa_cons (pv 8) (pa_cons (pv 9) pa_nil)))))) pa_nil)) (by rfl))
          apply pss_cons
          · exact (ps_if (PW.pt (pw_or (pt_not (pt_val (pe_cR FSm (hr.mono (by decide)) (by rfl) T.glo (T.kp (d := d_L_same) 38) pass0 (pa_cons (pv 11) (pa_cons (pe_ix ix_list (pv 12) pe_int (fun _ _ => rfl)) pa_nil))))) (pw_or1 (pt_cmpR op_ne (pe_cmpR (sEqK (n := 0) T rfl rfl rfl rfl rfl (hr.mono (by decide))) (pv 10) (pv 4) (nomark _)) (pe_cmpR op_eq (pe_callB call_len_seq (by rfl) T.free PySem.boot_len (pa_cons (pv 12) pa_nil)) pe_int (nomark _)) (nomark _))))) (pss_one (ps_ret pe_bl)) pss_nil)
          apply pss_cons
          · exact (ps_if (PW.pt (pw_or (pt_not (pt_val (pe_cR FSm (hr.mono (by decide)) (by rfl) T.glo (T.kp (d := d_L_same) 38) pass0 (pa_cons (SlX.pe_methSl0 (pv 10) (T.scls (x := "Sender")) (T.meth (x := "Sender") (m := "out")) FO (hr.mono (by decide)) pass0) (pa_cons (pe_ix ix_list (pv 5) (pe_un un_neg pe_int) (fun _ _ => rfl)) pa_nil))))) (pw_or1 (pt_not (pt_val (pe_cR FTd (hr.mono (by decide)) (by rfl) T.glo (T.kp (d := d_L_told_right) 47) pass0 (pa_cons (pv 1) (pa_cons (pv 2) (pa_cons (pv 10) (pa_cons (pv 5) pa_nil)))))))))) (pss_one (ps_ret pe_bl)) pss_nil)
          apply pss_cons
          · exact (ps_set (i := 5) sc_L_right.nd rfl (.inl rfl) (pe_ifExp (pt_cmpR op_eq (pe_callB call_len_seq (by rfl) T.free PySem.boot_len (pa_cons (pv 12) pa_nil)) pe_int (nomark _)) (pe_ix ix_list (pv 12) pe_int (fun _ _ => rfl)) (pv 5)))
          · exact pss_one (ps_if (pt_not (pt_val (pe_cR FTd (hr.mono (by decide)) (by rfl) T.glo (T.kp (d := d_L_told_right) 47) pass0 (pa_cons (pv 1) (pa_cons (pv 2) (pa_cons (pv 4) (pa_cons (pv 5) pa_nil))))))) (pss_one (ps_ret pe_bl)) pss_nil)
      apply pss_cons
      · exact (ps_if (pt_not (pt_val (pe_cR FNb (hr.mono (by decide)) (by rfl) T.glo (T.kp (d := d_L_no_box) 49) pF (pa_cons (pv 4) pa_nil)))) (pss_one (ps_ret pe_bl)) pss_nil)
      · exact pss_one (ps_ret (pe_and (pe_cR FNk (hr.mono (by decide)) (by rfl) T.glo (T.kp (d := d_L_no_key) 48) pF (pa_cons (pv 4) (pa_cons (pe_callB call_len_seq (by rfl) T.free PySem.boot_len (pa_cons (pv 5) pa_nil)) pa_nil))) (pe_and (pe_cR FNk (hr.mono (by decide)) (by rfl) T.glo (T.kp (d := d_L_no_key) 48) pF (pa_cons (pv 4) (pa_cons (pe_un un_neg pe_int) pa_nil))) (pe_one (pe_cmpR (sNeK T rfl rfl rfl rfl rfl (hr.mono (by decide))) (pv 4) (pe_make (T.mkr (x := "Sender")) SIi.ok (hr.mono (by decide)) (by rfl) T.glo SIi.b3 .nil pass0 (pa_cons (pv 1) (pa_cons (pe_op op_add (pv 2) pe_int) pa_nil))) (nomark _))))))
    case r =>
      obtain ⟨u, n, rfl, hU, hn, hQ⟩ := h
      refine ⟨_, rfl, u, n, rfl, hU, by omega, fun H1 vt t k1 U1 ht1 hnd hpool hdp hsz => ?_⟩
      refine ⟨_, rfl, u, 4, n + 30, rfl, U1, by omega, by decide, by decide, fun H2 d k2 U2 d0 d4 => ⟨_, _, rfl, rfl, ?_⟩⟩
      obtain ⟨cap, hcap⟩ : ∃ cap : Int, cap = 1 + d := ⟨_, rfl⟩
      have ec : V.int (1 + d) = V.int cap := by rw [hcap]
      simp only [ec]
      have ht2 := ht1.keep k2 U1.soft.noTup (noL_T t)
      have K2 := k1.trans k2
      have okt : okT t := ⟨by omega, by omega⟩
      have okx : okX t := fun x hx => pool_ok x (hpool x hx)
      refine ⟨_, rfl, by show 1 ≤ sizeLine; decide, fun q3 nq3 => ?_⟩
      have s3 := same_new (o := .lst [vt]) nq3
      have e3 : upd H2 q3 (.lst [vt]) q3 = some (.lst [vt]) := upd_same
      generalize upd H2 q3 (.lst [vt]) = H3 at s3 e3 ⊢
      refine ⟨.ref q3, .list [t.data], rfl, .lstM e3 (.one (ht2.same s3)), smD_lst hdp, fun H4 v4 s4 d4 => ?_⟩
      have d4 : LL (dif H3 H4) v4 (.list [lstN 11 t.data]) := d4
      obtain ⟨sf, v0, rfl, hsf, dv0⟩ : ∃ sf v0, v4 = .ref sf ∧ dif H3 H4 sf = some (.lst [v0]) ∧ LL (dif H3 H4) v0 (lstN 11 t.data) := by
        cases d4 with
        | lst h r =>
          cases r with
          | cons h1 t1 => cases t1; exact ⟨_, _, rfl, h, h1⟩
      have hsf4 := dif_same _ _ hsf
      have dv4 : Dp K H4 v0 (lstN 11 t.data) := (dv0.same dif_same).dp
      obtain ⟨ou2, eu2⟩ : ∃ o, H2 u = some o := by obtain ⟨a, b, c, q, _⟩ := U2; exact ⟨_, q⟩
      have S23 := s3
      have S24 := s3.trans s4
      have U4 := U2.same S24
      have ht4 := ht2.same S24
      have K4 := K2.trans (Keep.of S24 _)
      have hst := lstN_T t 11 20 (by omega) (by omega)
      have mk : ∀ {Hx : Hp} {x dx : Addr} {Hy : Hp}, Hx x = none → Hx dx = none → Keep [x, dx] (upd (upd Hx dx (.own x)) x (.ins (CS K) dx [])) Hy → dx ≠ x → Same Hx Hy := fun nx nd k ne b u e => k b u (new_same nx nd b u e) (by simp [ne_of_none e nx, ne_of_none e nd])
      refine ⟨_, rfl, sf, _, 0, v0, rfl, rfl, .of hsf4, rfl, _, rfl, rfl, rfl, fun p dx np nd ne => ?_⟩
      refine ⟨p, dx, v0, t, cap, rfl, .mk ne, ⟨_, dv4.same (new_same np nd), hst.1, hst.2, okt⟩, okx, fun H5 lo ld k5 nlo nld A5 => ⟨rfl, ?_⟩⟩
      have s5 := mk np nd k5 ne
      have sn5 := new_same (C := CS K) np nd
      have nlo4 : H4 lo = none := sn5.free nlo
      have nld4 : H4 ld = none := sn5.free nld
      obtain ⟨ou, eu4⟩ : ∃ o, H4 u = some o := by obtain ⟨a, b, c, q, _⟩ := U4; exact ⟨_, q⟩
      have nulo : u ≠ lo := ne_of_none eu4 nlo4
      have nuld : u ≠ ld := ne_of_none eu4 nld4
      have noH : ∀ {b : Addr}, H4 b = none → b ≠ u → H b = none := fun {b} nb hb => by
        cases z : H b with
        | none => rfl
        | some o => rw [K4 b o z (by simpa using hb)] at nb; cases nb
      have zlo : H lo = none := noH nlo4 (Ne.symm nulo)
      have zld : H ld = none := noH nld4 (Ne.symm nuld)
      obtain ⟨⟨vlo, elo5⟩, vld, eld5⟩ := A5.lists
      refine ⟨by show 0 ≤ sizeLine; decide, fun q6 nq6 => ⟨by show 1 ≤ sizeLine; decide, fun lr nlr => ?_⟩⟩
      have s6 := same_new2 (o := .lst [.ref q6]) (same_new (o := .tup []) nq6) nlr
      have R6 : RowsAt K (upd (upd H5 q6 (.tup [])) lr (.lst [.ref q6])) lr [[]] := ⟨[.ref q6], upd_same, .one (.tupM (same_new nlr _ _ upd_same) .nil)⟩
      have nlr5 : H5 lr = none := (same_new nq6).free nlr
      generalize upd (upd H5 q6 (.tup [])) lr (.lst [.ref q6]) = H6 at s6 R6 ⊢
      have S46 := s5.trans s6
      have nlru : lr ≠ u := Ne.symm (ne_of_none (s5 _ _ eu4) nlr5)
      have nlrlo : lr ≠ lo := Ne.symm (ne_of_none elo5 nlr5)
      have nlrld : lr ≠ ld := Ne.symm (ne_of_none eld5 nlr5)
      refine ⟨_, rfl, vt, t, rfl, ht4.same S46, by omega, by omega, fun H8 row s8 nrow erow => ⟨_, _, _, rfl, ?_⟩⟩
      have nrowu : row ≠ u := Ne.symm (ne_of_none (S46 _ _ eu4) nrow)
      have nrowlo : row ≠ lo := Ne.symm (ne_of_none (s6 _ _ elo5) nrow)
      have nrowld : row ≠ ld := Ne.symm (ne_of_none (s6 _ _ eld5) nrow)
      have S48 := S46.trans s8
      have F8 : TF K H H8 u p lo ld lr row vt t cap (n + 31) [[]] [] := ⟨(K4.trans (Keep.of S48 _)).mono (by simp), ht4.same S48, A5.same (s6.trans s8), R6.same s8, U4.same S48, erow⟩
      refine ⟨_, rfl, _, rfl, _, rfl, fun x9 dx9 nx9 nd9 ne9 => ?_⟩
      refine ⟨x9, dx9, vt, t, cap, rfl, .mk ne9, .of (F8.ht.same (new_same nx9 nd9)) okt, okx, fun H9 lo9 ld9 k9 _ _ B9 => ⟨rfl, ?_⟩⟩
      have s9 := mk nx9 nd9 k9 ne9
      have F9 := F8.same s9
      obtain ⟨w1, ws1, g1⟩ := slt_of F9.hs
      obtain ⟨w2, ws2, g2⟩ := slt_of B9
      refine ⟨p, w1, ws1, rfl, g1, .inl ⟨x9, CS K, w2, ws2, rfl, g2, T.sne.me⟩, p, lo, ld, t, cap, _, _, .ref x9, rfl, F9.hs, .inl ⟨x9, lo9, ld9, t, cap, _, _, rfl, B9, fun H10 s10 => ⟨_, rfl, _, rfl, ?_⟩⟩⟩
      rw [if_pos rfl, eqSt_refl F9.hs.ok]
      refine iteF ?_
      have F10 := F9.same s10
      refine ⟨_, rfl, _, rfl, _, rfl, _, rfl, vt, cap, p, lr, lo, ld, t, _, _, rfl, F10.ht, F10.hs, F10.hr, by decide +kernel, fun H11 s11 => ⟨_, rfl, ?_⟩⟩
      refine iteF ?_
      have F11 := F10.same s11
      refine ⟨_, rfl, _, rfl, _, rfl, _, _, rfl, rfl, fun x12 dx12 nx12 nd12 ne12 => ?_⟩
      refine ⟨x12, dx12, vt, t, cap + 1, rfl, .mk ne12, .of (F11.ht.same (new_same nx12 nd12)) okt, okx, fun H12 lo12 ld12 k12 _ _ B12 => ⟨rfl, ?_⟩⟩
      have s12 := mk nx12 nd12 k12 ne12
      have F12 := F11.same s12
      obtain ⟨w3, ws3, g3⟩ := slt_of F12.hs
      obtain ⟨w4, ws4, g4⟩ := slt_of B12
      refine ⟨p, w3, ws3, rfl, g3, .inl ⟨x12, CS K, w4, ws4, rfl, g4, T.sne.me⟩, p, lo, ld, t, cap, _, _, .ref x12, rfl, F12.hs, .inl ⟨x12, lo12, ld12, t, cap + 1, _, _, rfl, B12, fun H13 s13 => ⟨_, rfl, _, rfl, ?_⟩⟩⟩
      rw [if_neg Bool.false_ne_true, eqSt_ne (.inr (.inl (by omega)))]
      refine iteF ?_
      have F13 := F12.same s13
      refine ⟨_, rfl, _, rfl, by show 2 ≤ sizeLine; decide, fun q14 nq14 => ⟨_, rfl, fun x14 dx14 nx14 nd14 ne14 => ?_⟩⟩
      have s14 := same_new (o := .tup [vt, .str "w"]) nq14
      have e14 : upd H13 q14 (.tup [vt, .str "w"]) q14 = some (.tup [vt, .str "w"]) := upd_same
      generalize upd H13 q14 (.tup [vt, .str "w"]) = H14 at s14 e14 nx14 nd14 ⊢
      have F14 := F13.same s14
      have dw : Dp K H14 (.ref q14) (K90.T.node t (.leaf "w")).data := .tupM e14 (.cons F14.ht (.cons (.str _) .nil))
      have okw : okT (K90.T.node t (.leaf "w")) := ⟨by show max t.dp 0 + 1 ≤ 20; omega, by show t.size + 1 ≤ 100; omega⟩
      have okxw : okX (K90.T.node t (.leaf "w")) := fun x hx => by
        rcases List.mem_append.mp hx with hx | hx
        · exact okx x hx
        · rw [List.mem_singleton.mp hx]; exact w_ok
      refine ⟨x14, dx14, .ref q14, _, cap, rfl, .mk ne14, .of (dw.same (new_same nx14 nd14)) okw, okxw, fun H15 lo15 ld15 k15 _ _ B15 => ⟨rfl, ?_⟩⟩
      have s15 := mk nx14 nd14 k15 ne14
      have F15 := F14.same s15
      obtain ⟨w5, ws5, g5⟩ := slt_of F15.hs
      obtain ⟨w6, ws6, g6⟩ := slt_of B15
      refine ⟨p, w5, ws5, rfl, g5, .inl ⟨x14, CS K, w6, ws6, rfl, g6, T.sne.me⟩, p, lo, ld, t, cap, _, _, .ref x14, rfl, F15.hs, .inl ⟨x14, lo15, ld15, _, cap, _, _, rfl, B15, fun H16 s16 => ⟨_, rfl, _, rfl, ?_⟩⟩⟩
      rw [if_neg Bool.false_ne_true, eqSt_ne (.inl (by show t.size ≠ t.size + 1; omega))]
      refine iteF ?_
      have F16 := F15.same s16
      obtain ⟨w7, ws7, g7⟩ := slt_of F16.hs
      obtain ⟨tt, y1, y2, y3⟩ := ty_T T F16.ht
      refine ⟨_, rfl, _, rfl, p, w7, ws7, rfl, g7, .inr ⟨tt, y1, y2⟩, p, lo, ld, t, cap, _, _, vt, rfl, F16.hs, .inr ⟨tt, y1, y3, fun H17 s17 => ⟨_, rfl, _, rfl, ?_⟩⟩⟩
      refine iteF ?_
      have F17 := F16.same s17
      refine ⟨_, rfl, row, _, rfl, .inl (.of F17.row), _, _, rfl, rfl, _, rfl, ?_⟩
      refine join_if (F := fun Hx => TF K H Hx u p lo ld lr row vt t cap (n + 31) [[]] []) ?main ?a ?b
      case b => exact fun _ => F17
      case a =>
        intro hc hR
        obtain ⟨a, x0, x1, rfl, ha⟩ : ∃ a x0 x1, v0 = .ref a ∧ dif H3 H4 a = some (.lst [x0, x1]) := by
          cases t with
          | leaf x => exact absurd (show decide ((1 : Int) < 1) = true from hc) (by decide)
          | node l r =>
            have dv0 : LL (dif H3 H4) v0 (.list [lstN 10 l.data, lstN 10 r.data]) := dv0
            cases dv0 with
            | lst h r =>
              cases r with
              | cons h1 t1 =>
                cases t1 with
                | cons h2 t2 => cases t2; exact ⟨_, _, _, rfl, h⟩
        have ha4 := dif_same _ _ ha
        have ha3 : H3 a = none := dif_free ha
        have ha2 : H2 a = none := s3.free ha3
        have nau : a ≠ u := Ne.symm (ne_of_none (S23 _ _ eu2) ha3)
        have nalo : a ≠ lo := ne_of_none ha4 nlo4
        have nald : a ≠ ld := ne_of_none ha4 nld4
        have nalr : a ≠ lr := ne_of_none (s5 _ _ ha4) nlr5
        have narow : a ≠ row := ne_of_none (S46 _ _ ha4) nrow
        have zaH : H a = none := by
          cases z : H a with
          | none => rfl
          | some o => rw [K2 a o z (by simpa using nau)] at ha2; cases ha2
        have S417 : Same H4 H17 := S48.trans (s9.trans (s10.trans (s11.trans (s12.trans (s13.trans (s14.trans (s15.trans (s16.trans s17))))))))
        refine ⟨by show 2 ≤ sizeLine; decide, fun q18 nq18 => ?_⟩
        have s18 := same_new (o := .lst [V.str "nobody", V.str "else"]) nq18
        have e18 : upd H17 q18 (.lst [V.str "nobody", V.str "else"]) q18 = some (.lst [V.str "nobody", V.str "else"]) := upd_same
        generalize upd H17 q18 (.lst [V.str "nobody", V.str "else"]) = H18 at s18 e18 ⊢
        have ha18 := (S417.trans s18) _ _ ha4
        have F18 := F17.same s18
        refine ⟨_, rfl, sf, _, 0, .ref a, rfl, rfl, .of ((S417.trans s18) _ _ hsf4), rfl, a, q18, _, _, rfl, rfl, ha18, e18, ne_of_none (S417 _ _ ha4) nq18, by show 2 + 2 ≤ sizeLine; decide, ?_⟩
        exact hR _ ⟨F18.k.upd (.inr zaH), F18.ht.keep keep_one (noTup_one ha18) (noL_T t), F18.hs.keep keep_one (.one ha18) (by simpa using Ne.symm nalo) (by simpa using Ne.symm nald),
          F18.hr.keep keep_one (.one ha18) (by simpa using Ne.symm nalr), F18.hu.keep keep_one (by simpa using Ne.symm nau), keep_one _ _ F18.row (by simpa using Ne.symm narow)⟩
      case main =>
        intro Hx FX
        refine ⟨14, rfl, by omega, by omega, ?_⟩
        refine for_range (n := (14 : Int).toNat) (fun i σ' H' => ∃ lr outs deeds x7 x8 x9 x10 x11 x12, σ' = [some (.ref u), some vt, some (.int cap), some (.ref sf), some (.ref p), some (.ref lr), some (.ref row), x7, x8, x9, x10, x11, x12] ∧
            TF K H H' u p lo ld lr row vt t cap (n + 31 + 2 * i) outs deeds ∧ (∀ o ∈ outs, o.Nodup) ∧ outs.length ≤ i + 1 ∧ lr ≠ u ∧ lr ≠ lo ∧ lr ≠ ld)
          ⟨lr, [[]], [], none, none, none, none, none, none, rfl, FX, fun o ho => by rw [List.mem_singleton.mp ho]; exact List.nodup_nil, by decide, nlru, nlrlo, nlrld⟩ (fun i σ' H' hi ⟨lr, outs, deeds, x7, x8, x9, x10, x11, x12, eσ, F, hnd', hlen, nlru, nlrlo, nlrld⟩ => ?_) (fun σ' H' ⟨lr, outs, deeds, x7, x8, x9, x10, x11, x12, eσ, F, hnd', hlen, nlru, nlrlo, nlrld⟩ => ?_)
        · subst eσ
          have hi : i < 14 := hi
          have lol := F.hs.ok.len
          have llo : lastO outs ∈ outs := F.hs.last
          have lll := F.hs.ok.last_len
          have hnl : (lastO outs).Nodup := hnd' _ llo
          have hlv100 : t.leaves.length ≤ 10 := by rw [t.len_leaves]; exact hsz
          -- the word
          refine ⟨_, rfl, by show 5 ≤ sizeLine; decide, fun q1 nq1 => ?_⟩
          have s1 := same_new (o := .lst [V.str "lock", .str "lock", .str "lock", .str "let", .str "undo"]) nq1
          have e1 : upd H' q1 (.lst [V.str "lock", .str "lock", .str "lock", .str "let", .str "undo"]) q1 = some (.lst ((["lock", "lock", "lock", "let", "undo"] : List Str).map V.str)) := upd_same
          generalize upd H' q1 (.lst [V.str "lock", .str "lock", .str "lock", .str "let", .str "undo"]) = Ha at s1 e1 ⊢
          obtain ⟨ou', euH'⟩ : ∃ o, H' u = some o := by obtain ⟨a, b, c, q, _⟩ := F.hu; exact ⟨_, q⟩
          have Fa := F.same s1
          refine ⟨u, q1, _, ["lock", "lock", "lock", "let", "undo"], rfl, Fa.hu, by omega, e1, Ne.symm (ne_of_none euH' nq1), by decide, by decide, fun Hb wd kb Ub hwd => ?_⟩
          have hwd : wd = "lock" ∨ wd = "let" ∨ wd = "undo" := by
            simp only [List.mem_cons, List.not_mem_nil, or_false] at hwd
            rcases hwd with h | h | h | h | h
            · exact .inl h
            · exact .inl h
            · exact .inl h
            · exact .inr (.inl h)
            · exact .inr (.inr h)
          have Fb := Fa.keepU kb Ub (Ne.symm nulo) (Ne.symm nuld) nlru nrowu
          -- the name
          refine ⟨_, rfl, _, rfl, _, rfl, row, row, _, _, rfl, rfl, Fb.row, Fb.row, by have := sizeLine_eq; simp; omega, fun q2 nq2 => ?_⟩
          have s2 := same_new (o := .lst (t.leaves.map V.str ++ t.leaves.map V.str)) nq2
          have e2 : upd Hb q2 (.lst (t.leaves.map V.str ++ t.leaves.map V.str)) q2 = some (.lst (t.leaves.map V.str ++ t.leaves.map V.str)) := upd_same
          generalize upd Hb q2 (.lst (t.leaves.map V.str ++ t.leaves.map V.str)) = Hc at s2 e2 ⊢
          refine ⟨by show 1 ≤ sizeLine; decide, fun q3 nq3 => ?_⟩
          have s3 := same_new (o := .lst [V.str "nobody"]) nq3
          have e3 : upd Hc q3 (.lst [V.str "nobody"]) q3 = some (.lst [V.str "nobody"]) := upd_same
          generalize upd Hc q3 (.lst [V.str "nobody"]) = Hd at s3 e3 ⊢
          refine ⟨q2, q3, _, _, rfl, rfl, s3 _ _ e2, e3, by have := sizeLine_eq; simp; omega, fun q4 nq4 => ?_⟩
          have s4 := same_new (o := .lst (t.leaves.map V.str ++ t.leaves.map V.str ++ [V.str "nobody"])) nq4
          have e4 : upd Hd q4 (.lst (t.leaves.map V.str ++ t.leaves.map V.str ++ [V.str "nobody"])) q4 = some (.lst ((t.leaves ++ t.leaves ++ [("nobody" : Str)]).map V.str)) := by rw [upd_same, List.map_append, List.map_append]; rfl
          generalize upd Hd q4 (.lst (t.leaves.map V.str ++ t.leaves.map V.str ++ [V.str "nobody"])) = Hz at s4 e4 ⊢
          have sbd := s2.trans s3
          have Fe := Fb.same (sbd.trans s4)
          obtain ⟨ou2, eu2⟩ : ∃ o, Hb u = some o := by obtain ⟨a, b, c, q, _⟩ := Fb.hu; exact ⟨_, q⟩
          refine ⟨u, q4, _, t.leaves ++ t.leaves ++ [("nobody" : Str)], rfl, Fe.hu, by omega, e4, Ne.symm (ne_of_none (sbd _ _ eu2) nq4), by simp, by simp; omega, fun Hf x kf Uf hx => ⟨_, _, rfl, ?_⟩⟩
          have Ff := Fe.keepU kf Uf (Ne.symm nulo) (Ne.symm nuld) nlru nrowu
          have en : n + 31 + 2 * i + 1 + 1 = n + 31 + 2 * (i + 1) := by omega
          rw [en] at Ff
          obtain ⟨w1, ws1, g1⟩ := slt_of Ff.hs
          refine ⟨_, rfl, p, w1, ws1, rfl, g1, p, lo, ld, t, cap, outs, deeds, rfl, Ff.hs, fun Hg pp lo' ld' sg npp nlo' nld' Pg => ?_⟩
          have Fg := Ff.same sg
          obtain ⟨wa, wsa, ga⟩ := slt_of Pg
          obtain ⟨ya, ysa, za⟩ := slt_of Fg.hs
          refine ⟨_, rfl, _, rfl, pp, wa, wsa, rfl, ga, .inl ⟨p, CS K, ya, ysa, rfl, za, T.sne.me⟩, pp, lo', ld', t, cap, _, _, .ref p, rfl, Pg, .inl ⟨p, lo, ld, t, cap, _, _, rfl, Fg.hs, fun Hh sh => ⟨_, rfl, _, rfl, ?_⟩⟩⟩
          rw [if_pos rfl, eqSt_refl Pg.ok]
          refine iteF ?_
          have Fh := Fg.same sh
          have Ph := Pg.same sh
          obtain ⟨wb, wsb, gb⟩ := slt_of Ph
          obtain ⟨yb, ysb, zb⟩ := slt_of Fh.hs
          refine ⟨_, rfl, _, rfl, pp, wb, wsb, rfl, gb, .inl ⟨p, CS K, yb, ysb, rfl, zb, T.sne.me⟩, pp, lo', ld', t, cap, _, _, .ref p, rfl, Ph, .inl ⟨p, lo, ld, t, cap, _, _, rfl, Fh.hs, fun Hi si => ⟨_, rfl, _, rfl, ?_⟩⟩⟩
          rw [if_neg Bool.false_ne_true, eqSt_refl Ph.ok]
          refine iteF ?_
          have Fi := Fh.same si
          have Pi := Ph.same si
          have sfi := (sg.trans sh).trans si
          refine ⟨_, rfl, _, rfl, _, rfl, p, lo, ld, t, cap, outs, deeds, wd, x, rfl, Fi.hs, by omega, hwd, fun r hr Hj v sj dj => ?_, fun os hos Hj kj Aj => ?_⟩
          · have Fj := Fi.same sj
            have Pj := Pi.same sj
            refine ⟨_, rfl, _, rfl, _, rfl, _, rfl, _, rfl, vt, cap, lr, wd, x, t, outs, rfl, Fj.ht, okt, Fj.hr, by omega, by omega, by omega, hnl, hwd, fun r' hr' Hk l v' sk nl el dk => ⟨_, _, rfl, ?_⟩, fun os hos => by rw [hr] at hos; cases hos⟩
            rw [hr] at hr'
            cases hr'
            have Fk := Fj.same sk
            have Pk := Pj.same sk
            refine ⟨_, rfl, _, rfl, l, _, 0, v', rfl, rfl, .of el, rfl, v, v', refD r x, rfl, dj.same sk, dk, refD_sm r x, fun Hl sl => ⟨_, rfl, ?_⟩⟩
            refine iteF ?_
            have Fl := Fk.same sl
            have Pl := Pk.same sl
            obtain ⟨wc, wsc, gc⟩ := slt_of Pl
            obtain ⟨yc, ysc, zc⟩ := slt_of Fl.hs
            refine ⟨_, rfl, _, rfl, pp, wc, wsc, rfl, gc, .inl ⟨p, CS K, yc, ysc, rfl, zc, T.sne.me⟩, pp, lo', ld', t, cap, _, _, .ref p, rfl, Pl, .inl ⟨p, lo, ld, t, cap, _, _, rfl, Fl.hs, fun Hm sm => ⟨_, rfl, ?_⟩⟩⟩
            have elm := (sl.trans sm) _ _ el
            refine ⟨_, rfl, l, _, rfl, .inl (.of elm), rfl, rfl, _, rfl, ?_⟩
            rw [if_neg Bool.false_ne_true, eqSt_refl Pl.ok]
            refine iteF ?_
            have Fm := Fl.same sm
            have Pm := Pl.same sm
            obtain ⟨rv, er, hrv⟩ := id Fm.hr
            obtain ⟨wsr, vl, ev, hvl⟩ := RowsAt.last hrv (by omega)
            have hat : atI rv (-1) = some vl := by rw [ev]; exact atI_last wsr vl
            obtain ⟨wd1, wsd1, gd1⟩ := slt_of Pm
            refine ⟨_, rfl, pp, wd1, wsd1, rfl, gd1, pp, lo', ld', t, cap, _, _, rfl, Pm, fun Hn vo sn dn => ?_⟩
            refine ⟨_, rfl, _, rfl, lr, rv, -1, vl, rfl, rfl, .of (sn _ _ er), hat, vo, vl, outD (lastO outs), rfl, dn, hvl.same sn, outD_sm _ (by omega), fun Ho so => ⟨_, rfl, ?_⟩⟩
            refine iteF ?_
            have sno := sn.trans so
            refine ⟨_, rfl, _, rfl, _, rfl, _, rfl, vt, cap, pp, lr, lo', ld', t, outs, deeds, rfl, Fm.ht.same sno, Pm.same sno, RowsAt.same sno ⟨rv, er, hrv⟩, hnl, fun Hp sp => ⟨_, rfl, ?_⟩⟩
            refine iteF ?_
            have smp := sno.trans sp
            have Fp := Fm.same smp
            refine ⟨_, rfl, l, _, rfl, .inl (.of (smp _ _ elm)), rfl, _, rfl, ?_⟩
            refine iteF ⟨_, rfl, ?_⟩
            refine ⟨_, rfl, _, rfl, _, rfl, _, rfl, vt, cap, p, lr, lo, ld, t, outs, deeds, rfl, Fp.ht, Fp.hs, Fp.hr, hnl, fun Hq sq => ⟨_, rfl, ?_⟩⟩
            exact iteF ⟨lr, outs, deeds, _, _, _, _, _, _, rfl, Fp.same sq, hnd', by omega, nlru, nlrlo, nlrld⟩
          · obtain ⟨kJ, htJ, hsJ, hrJ, huJ, rowJ⟩ := Fi.deed kj Aj (by simp [nulo, nuld]) (by simp [nlrlo, nlrld]) (by simp [nrowlo, nrowld])
            have elo : lo' ∉ [lo, ld] := by
              have := Ff.hs.ne nlo'
              simp [this]
            have eld : ld' ∉ [lo, ld] := by
              have := Ff.hs.ne nld'
              simp [this]
            have Pj := Pi.keep kj Fi.hs.soft elo eld
            obtain ⟨ouJ, euJ⟩ : ∃ o, Hj u = some o := by obtain ⟨a, b, c, q, _⟩ := huJ; exact ⟨_, q⟩
            obtain ⟨⟨vloJ, eloJ⟩, vldJ, eldJ⟩ := hsJ.lists
            refine ⟨_, rfl, _, rfl, _, rfl, _, rfl, _, rfl, vt, cap, lr, wd, x, t, outs, rfl, htJ, okt, hrJ, by omega, by omega, by omega, hnl, hwd, fun r hr => (by rw [hos] at hr; cases hr), fun os' hos' Hk l lr' sk nl nlr' el rk => ⟨_, _, rfl, ?_⟩⟩
            rw [hos] at hos'
            cases hos'
            obtain ⟨dd, hd1, hd2, hd3⟩ : ∃ dd : PyData, (∀ G, Dp K G (doneV wd deeds) dd) ∧ (∀ G, Dp K G (if wd = "undo" then V.non else V.int (outs.length : Nat)) dd) ∧ smD 3 dd = true := by
              unfold doneV
              by_cases c : wd = "undo"
              · rw [if_pos c, if_pos c]
                exact ⟨.none, fun _ => .non, fun _ => .non, rfl⟩
              · rw [if_neg c, if_neg c, lol]
                exact ⟨_, fun _ => .int _, fun _ => .int _, rfl⟩
            refine ⟨_, rfl, _, rfl, l, _, 0, _, rfl, rfl, .of el, rfl, doneV wd deeds, _, dd, rfl, hd1 _, hd2 _, hd3, fun Hl sl => ⟨_, rfl, ?_⟩⟩
            refine iteF ?_
            have skl := sk.trans sl
            have Pl := Pj.same skl
            have hsl := hsJ.same skl
            obtain ⟨wc, wsc, gc⟩ := slt_of Pl
            obtain ⟨yc, ysc, zc⟩ := slt_of hsl
            refine ⟨_, rfl, _, rfl, pp, wc, wsc, rfl, gc, .inl ⟨p, CS K, yc, ysc, rfl, zc, T.sne.me⟩, pp, lo', ld', t, cap, _, _, .ref p, rfl, Pl, .inl ⟨p, lo, ld, t, cap, _, _, rfl, hsl, fun Hm sm => ⟨_, rfl, ?_⟩⟩⟩
            have skm := skl.trans sm
            have elm := (sl.trans sm) _ _ el
            refine ⟨_, rfl, l, _, rfl, .inl (.of elm), rfl, rfl, _, rfl, ?_⟩
            have hdl : deeds.length ≠ (deedsR wd x deeds).length := Ne.symm (deedsR_len fun c => by
              rw [c, deedR_undo] at hos
              split at hos
              · cases hos
              · omega)
            rw [if_neg Bool.false_ne_true, eqSt_ne (.inr (.inr hdl))]
            refine iteF ?_
            have Pm := Pl.same sm
            obtain ⟨rv, er, hrv⟩ := hrJ.same skm
            obtain ⟨wsr, vl, ev, hvl⟩ := RowsAt.last hrv (by omega)
            have hat : atI rv (-1) = some vl := by rw [ev]; exact atI_last wsr vl
            obtain ⟨wd1, wsd1, gd1⟩ := slt_of Pm
            refine ⟨_, rfl, pp, wd1, wsd1, rfl, gd1, pp, lo', ld', t, cap, _, _, rfl, Pm, fun Hn vo sn dn => ?_⟩
            refine ⟨_, rfl, _, rfl, lr, rv, -1, vl, rfl, rfl, .of (sn _ _ er), hat, vo, vl, outD (lastO outs), rfl, dn, hvl.same sn, outD_sm _ (by omega), fun Ho so => ⟨_, rfl, ?_⟩⟩
            refine iteF ?_
            have sno := sn.trans so
            refine ⟨_, rfl, _, rfl, _, rfl, _, rfl, vt, cap, pp, lr, lo', ld', t, outs, deeds, rfl, (htJ.same skm).same sno, Pm.same sno, RowsAt.same sno ⟨rv, er, hrv⟩, hnl, fun Hp sp => ⟨_, rfl, ?_⟩⟩
            refine iteF ?_
            have smp := sno.trans sp
            refine ⟨_, rfl, l, _, rfl, .inl (.of (smp _ _ elm)), rfl, _, rfl, ?_⟩
            refine iteT ⟨_, rfl, l, _, 1, _, rfl, rfl, .of (smp _ _ elm), rfl, ?_⟩
            have skp := skm.trans smp
            have hsP := hsJ.same skp
            have rkp : RowsAt K Hp lr' os := rk.same ((sl.trans sm).trans smp)
            have hndo := deed_nodup hos hwd hnd' (by omega)
            refine ⟨_, rfl, _, rfl, _, rfl, _, rfl, vt, cap, p, lr', lo, ld, t, os, deedsR wd x deeds, rfl, htJ.same skp, hsP, rkp, hndo _ hsP.last, fun Hq sq => ⟨_, rfl, ?_⟩⟩
            have skq := skp.trans sq
            have hdlen := deed_len hos hwd
            exact iteF ⟨lr', os, deedsR wd x deeds, _, _, _, _, _, _, rfl, ⟨kJ.trans (.of skq _), htJ.same skq, hsJ.same skq, rkp.same sq, huJ.same skq, skq _ _ rowJ⟩, hndo, by omega, Ne.symm (ne_of_none euJ nlr'), Ne.symm (ne_of_none eloJ nlr'), Ne.symm (ne_of_none eldJ nlr')⟩
        · subst eσ
          have lol := F.hs.ok.len
          have nob : ("nobody" : Str) ∉ t.leaves := fun z => pool_nobody (hpool _ z)
          refine ⟨_, rfl, p, lo, ld, t, cap, outs, deeds, rfl, F.hs, nob, fun Ha sa => ⟨_, rfl, ?_⟩⟩
          refine iteF ?_
          have Fa := F.same sa
          obtain ⟨rv, er, hrv⟩ := id Fa.hr
          have hlr := hrv.len
          rw [List.length_map] at hlr
          refine ⟨_, rfl, _, rfl, lr, rv, rfl, .inl (.of er), p, lo, ld, t, cap, outs, deeds, _, rfl, Fa.hs, by omega, fun Hb sb => ⟨_, rfl, iteT ?_⟩⟩
          have Fb := Fa.same sb
          refine ⟨_, rfl, _, rfl, p, lo, ld, t, cap, outs, deeds, -1, rfl, Fb.hs, by omega, fun Hc sc => ⟨_, rfl, iteT ?_⟩⟩
          have Fc := Fb.same sc
          refine ⟨_, rfl, _, rfl, _, rfl, _, _, rfl, rfl, fun x12 dx12 nx12 nd12 ne12 => ?_⟩
          refine ⟨x12, dx12, vt, t, cap + 1, rfl, .mk ne12, .of (Fc.ht.same (new_same nx12 nd12)) okt, okx, fun Hd lo12 ld12 k12 _ _ B12 => ⟨rfl, ?_⟩⟩
          have sd := mk nx12 nd12 k12 ne12
          have Fd := Fc.same sd
          obtain ⟨w3, ws3, g3⟩ := slt_of Fd.hs
          obtain ⟨w4, ws4, g4⟩ := slt_of B12
          refine ⟨p, w3, ws3, rfl, g3, .inl ⟨x12, CS K, w4, ws4, rfl, g4, T.sne.me⟩, p, lo, ld, t, cap, _, _, .ref x12, rfl, Fd.hs, .inl ⟨x12, lo12, ld12, t, cap + 1, _, _, rfl, B12, fun Hf sf => ⟨_, rfl, ?_⟩⟩⟩
          rw [if_pos rfl, eqSt_ne (.inr (.inl (by omega)))]
          refine hQ _ (keep_drop (Fd.same sf).k fun b hb => ?_)
          simp only [List.mem_cons, List.not_mem_nil, or_false] at hb
          rcases hb with rfl | rfl | rfl
          · exact .inl (List.mem_singleton.mpr rfl)
          · exact .inr zlo
          · exact .inr zld
end
end K90
end

section
set_option Elab.async false
set_option linter.all false
set_option maxRecDepth 100000
set_option maxHeartbeats 4000000
/-! the law -/
namespace K90
open PySem PySem.Spec PyProof.Rows L2
def spLaw (K : PySem.W.Frag) : Sp := fun vs H Q _ => ∃ (a : Addr) (ns : List Int), vs = [.ref a] ∧ SqL K H a (ns.map V.int) ∧ ∀ H', Q (.bl true) H'
section
variable {w : World} {K : PySem.W.Frag} {mg : Str → Option Value} {base : Heap}
theorem ok_law (T : Txt K mg) {fd : FuncData} (F : FunD K "law" "law" (defArgs s_law) (defBody s_law) (defScope s_law) [] [] (He.fAd K ("law", none)) fd) : FnOk prg w K mg base CX0 44 (He.fAd K ("law", none)) fd ["_law_script"] (spLaw K) := by
  have FCe := ok_L_cells (w := w) (base := base) T
  have FBx := ok_L_box (w := w) (base := base) T
  have FKn := ok_L_known (w := w) (base := base) T
  have FWd := ok_L_wide (w := w) (base := base) T
  have FRt := ok_L_right (w := w) (base := base) T
  refine F.ok (N := N_law) sc_law ?ln ?bd
  case ln =>
    rintro _ _ _ _ ⟨a, ns, rfl, _⟩
    rfl
  case bd =>
    intro cdv A outer s H vs Q E hr h
    apply bodyN
    case h =>
      apply pss_cons
      · exact ps_set (i := 1) sc_law.nd rfl (.inr rfl) (pe_cR FCe (hr.mono (by decide)) (by rfl) T.glo (T.kp (d := d_L_cells) 35) pass0 (pa_cons (pv 0) (pa_cons pe_int pa_nil)))
      · exact pss_one (ps_ret (pe_and (pe_cR0 FKn (hr.mono (by decide)) (by rfl) T.glo (T.kp (d := d_L_known_right) 50) pass0) (pe_and (pe_cR0 FWd (hr.mono (by decide)) (by rfl) T.glo (T.kp (d := d_L_wide_right) 51) pass0)
          (pe_one (pe_callB (cr_all rfl) (by rfl) T.free bt_all (pa_cons (pe_lcR (own := [("_law_k", 2)]) (g := gName 2) (tt := tYes) (by rfl) sc_law.nd (pi_range1 (by rfl) T.free (pa_cons (pe_callB call_len_seq (by rfl) T.free PySem.boot_len (pa_cons (pv 1) pa_nil)) pa_nil)) (blkOk_by (own := [("_law_k", 2)]) (N := N_law) (sc := defScope s_law) (by decide +kernel))
            (fun _ _ _ _ _ => pg_name (i := 2) sc_law.nd rfl (.inl rfl)) (fun _ _ _ _ _ => pts_nil) (fun _ _ _ _ _ => pe_cR FRt (hr.mono (by decide)) (by rfl) T.glo (T.kp (d := d_L_right) 52) pass0 (pa_cons (pe_cR FBx (hr.mono (by decide)) (by rfl) T.glo (T.kp (d := d_L_box) 33) pass0 (pa_cons (pv 1) (pa_cons (pv 2) pa_nil))) pa_nil))) pa_nil))))))
    case r =>
      obtain ⟨a, ns, rfl, hS, hQ⟩ := h
      refine ⟨_, rfl, a, ns, rfl, hS, fun H1 l ms s1 nl el l1 l2 => ?_⟩
      refine ⟨rfl, fun H2 s2 => ⟨_, rfl, iteT ?_⟩⟩
      refine ⟨rfl, fun H3 s3 => ⟨_, rfl, iteT ?_⟩⟩
      have el3 := (s2.trans s3) _ _ el
      refine ⟨_, rfl, l, _, rfl, .inl (.of el3), ((ms.map V.int).length : Int), rfl, by omega, by rw [List.length_map]; omega, ?_⟩
      rw [Int.toNat_natCast, List.length_map]
      refine comp_walk (K := K) walk_range (fun _ => some (PyData.bool true)) (fun _ _ => trivial) (fun D j x H11 H12 nD hj acc hyj => ?_) fun D H11 acc => ?_
      · obtain ⟨rfl, rfl⟩ := hyj
        have e0 : (0 : Int) + (j : Int) = ((j : Nat) : Int) := by omega
        simp only [e0]
        refine ⟨rfl, yes_t ⟨_, rfl, _, rfl, l, ms, j, rfl, .of (acc.1 _ _ el3), hj, by omega, fun H5 u s5 nu U5 => ?_⟩⟩
        refine ⟨u, 0, rfl, U5, by decide, fun H6 k6 => ?_⟩
        have s6 := same_keep s5 k6 (fun b hb => by rw [List.mem_singleton.mp hb]; exact nu)
        exact (acc.same s6).pushN (d := PyData.bool true) rfl rfl (.bl _) (small1000 (by omega))
      · obtain ⟨items, eD, hI⟩ := acc.list
        have e2 : (List.range ms.length).filterMap (fun _ => some (PyData.bool true)) = ((List.range ms.length).map fun _ => true).map PyData.bool := by
          rw [List.map_map]
          exact congrFun List.filterMap_eq_map' _
        rw [e2] at hI
        have ei := bls_back hI
        subst ei
        refine ⟨D, _, rfl, .of eD, ?_⟩
        rw [show (((List.range ms.length).map fun _ => true).all id) = true by simp]
        exact hQ _
end
end K90
end

section
set_option Elab.async false
set_option linter.all false
set_option maxRecDepth 100000
set_option maxHeartbeats 0
/-! the end: the law holds -/
namespace K90
open PySem PySem.Spec PyProof.Rows L2
theorem facts {w : World} {K : PySem.W.Frag} {h : Heap} {mg : Str → Option Value} {f : Addr} (X : K.In h) (G : h.Ns mainGlobals mg) (hfa : mg ("law" : Str) = some (.ref f)) (c : SaysK K) :
    ∃ fd : FuncData, (∀ (s : Shared) (v : Value), BindsTo s fd ⟨[v], []⟩ [("_law_script", v)]) ∧ ∀ base : Heap, K.In base → base.Ns mainGlobals mg → FnOk prg w K mg base CX0 44 f fd ["_law_script"] (spLaw K) := by
  have T : Txt K mg := ⟨c, h, X, G⟩
  obtain ⟨fd, F⟩ := T.fn 53
  have e := hfa.symm.trans (T.glo (x := "law"))
  cases e
  have F' : FunD K "law" "law" (defArgs s_law) (defBody s_law) (defScope s_law) [] [] (He.fAd K ("law", none)) fd := F
  have b := FunD.bindsA (ps := ["_law_script"]) F' fun _ _ _ _ _ _ us hl => match us, hl with | [_], _ => rfl
  exact ⟨fd, fun s v => b s [v] rfl, fun base _ _ => ok_law T F'⟩
end K90
open PySem PySem.W PySem.Calls PyProof.Rows
theorem PySem.Challenge.cw_lockedout_k90_whole_a_sender_and_its_key_holds : PySem.Challenge.rw_lockedout_k90_whole_a_sender_and_its_key.Holds := by
  w_on; o_law
  refine HandSHeadRun.head_any (r := OpenLaw.row PySem.Challenge.rw_lockedout_k90_whole_a_sender_and_its_key) (q := view (OpenLaw.row PySem.Challenge.rw_lockedout_k90_whole_a_sender_and_its_key).prog [43]) (H := K90.hk) (ob := K90.ob) (M := 12000) (loose := K90.loose) (d := HandSHeadRun.topDef (OpenLaw.row PySem.Challenge.rw_lockedout_k90_whole_a_sender_and_its_key).prog 43) (kwd := []) K90.ob_eq
    (by kernel_rfl) (fun s => by kernel_rfl) K90.run (by kernel_rfl) (by kernel_rfl) (by kernel_rfl) (by rfl) (by first | assumption | decide +kernel) (by decide +kernel) ⟨rfl, rfl, rfl, rfl, rfl, by decide +kernel⟩ ?hw ?hc
  case hw => w_witness2
  case hc =>
    refine L2.walk_ofE (l := PySem.Challenge.rw_lockedout_k90_whole_a_sender_and_its_key) (n := 63) (k := 44) (x := "_law_script") (CX := L2.CX0) rfl (by decide) (by kernel_rfl) ⟨rfl, by decide, by decide⟩ ?F (fun _ _ _ _ z => z)
    intro w mg fa h Y G hmg0
    obtain ⟨K, KX, c⟩ := Y
    have hmg : mg ("law" : PySem.Str) = some (.ref fa) := by
      have e : (HandSHeadRun.topDef (OpenLaw.row PySem.Challenge.rw_lockedout_k90_whole_a_sender_and_its_key).prog 43).name = ("law" : PySem.Str) := by kernel_rfl
      rw [← e]
      exact hmg0
    obtain ⟨fd, hb, hF⟩ := K90.facts (w := w) KX G hmg c
    exact ⟨K, fd, K90.spLaw K, KX, hb, fun H a ns hl _ hS => ⟨a, ns, rfl, hS, fun _ => rfl⟩, hF⟩
end
