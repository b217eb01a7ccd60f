import PyProof.Rows.All
import Wide.All
import OpenK.AllK
import Wide.FinOn
import KE.KStateDown
import HandS.ForMost
import HandS.ForExc
import HandS.Defaults
import HandS.Head0
import HandS.Head1
import HandS.Head2
import HandS.HeadEnd
import HandS.HeadHook1
import HandS.HeadHook2
import PySem.Challenge.RW_allknow_k10_whole_steps
import HandS.Walk
import HandS.Replace
import HandS.Deep
import HandS.SortKw
import HandS.IsInst
import HandS.Conv
import KE.GoesMore
import KE.GoesEnum
set_option Elab.async false
set_option linter.all false
set_option maxRecDepth 100000
set_option maxHeartbeats 4000000
namespace Kn
open PySem PySem.Spec PyProof.Rows L2
def top (i : Nat) : Stmt := PySem.Challenge.pw_allknow_k10_whole_steps.main.body.getD i (.Pass ⟨0, 0, 0, 0⟩)
abbrev s_is_ascending : Stmt := (top 10)
abbrev s_is_message : Stmt := (top 11)
abbrev s_is_link : Stmt := (top 12)
abbrev s_check_nodes : Stmt := (top 13)
abbrev s_check_links : Stmt := (top 14)
abbrev s_Network_init : Stmt := (inClass (top 15) 0)
abbrev s_Network_node_letters : Stmt := (inClass (top 15) 2)
abbrev s_node_number : Stmt := (top 16)
abbrev s_mask_of : Stmt := (top 20)
abbrev s_text_of : Stmt := (top 21)
abbrev s_Span_init : Stmt := (inClass (top 22) 0)
abbrev s_Span_rank : Stmt := (inClass (top 22) 1)
abbrev s_Span_left : Stmt := (inClass (top 22) 2)
abbrev s_Span_has : Stmt := (inClass (top 22) 3)
abbrev s_Span_add : Stmt := (inClass (top 22) 4)
abbrev s_basis : Stmt := (top 23)
abbrev s_Course_init : Stmt := (inClass (top 26) 0)
abbrev s_Course_ends : Stmt := (inClass (top 26) 1)
abbrev s_Course_can : Stmt := (inClass (top 26) 2)
abbrev s_Course_mask : Stmt := (inClass (top 26) 3)
abbrev s_Course_do : Stmt := (inClass (top 26) 4)
abbrev s_Course_whole : Stmt := (inClass (top 26) 5)
abbrev s_fault : Stmt := (top 27)
abbrev s_done : Stmt := (top 28)
abbrev s_ranks : Stmt := (top 29)
abbrev s_informed : Stmt := (top 30)
abbrev s_known : Stmt := (top 31)
abbrev s_idle_steps : Stmt := (top 32)
abbrev s_can_swap : Stmt := (top 33)
abbrev s__law_pool : Stmt := (top 35)
abbrev s__law_take : Stmt := (top 36)
abbrev s__law_is_integer : Stmt := (top 37)
abbrev s__law_same : Stmt := (top 38)
abbrev s__law_pick : Stmt := (top 39)
abbrev s__law_parity : Stmt := (top 40)
abbrev s__law_message : Stmt := (top 41)
abbrev s__law_sum : Stmt := (top 42)
abbrev s__law_derived : Stmt := (top 43)
abbrev s__law_rank : Stmt := (top 44)
abbrev s__law_some_messages : Stmt := (top 45)
abbrev s__law_drawn : Stmt := (top 46)
abbrev s__law_filled : Stmt := (top 47)
abbrev s__law_network : Stmt := (top 48)
abbrev s__law_shaped : Stmt := (top 49)
abbrev s__law_handed : Stmt := (top 50)
abbrev s__law_sets : Stmt := (top 51)
abbrev s__law_messages_of : Stmt := (top 52)
abbrev s__law_demand : Stmt := (top 53)
abbrev s__law_entering : Stmt := (top 54)
abbrev s__law_deficient : Stmt := (top 55)
abbrev s__law_begin : Stmt := (top 56)
abbrev s__law_possible : Stmt := (top 57)
abbrev s__law_sent : Stmt := (top 58)
abbrev s__law_is_complete : Stmt := (top 59)
abbrev s__law_some_sent : Stmt := (top 60)
abbrev s__law_run : Stmt := (top 61)
abbrev s__law_is_bounded : Stmt := (top 62)
abbrev s_law : Stmt := (top 63)
abbrev N_is_ascending : List Str := ["text", "letters", "places", "letter", "place", "one", "two"]
abbrev P_is_ascending : List Str := ["text", "letters"]
theorem sc_is_ascending : FnScope N_is_ascending P_is_ascending (defScope s_is_ascending) := ⟨rfl, rfl, rfl, by decide +kernel, rfl, by decide +kernel, by decide +kernel⟩
abbrev N_is_message : List Str := ["variables", "text"]
abbrev P_is_message : List Str := ["variables", "text"]
theorem sc_is_message : FnScope N_is_message P_is_message (defScope s_is_message) := ⟨rfl, rfl, rfl, by decide +kernel, rfl, by decide +kernel, by decide +kernel⟩
abbrev N_is_link : List Str := ["nodes", "text", "letters"]
abbrev P_is_link : List Str := ["nodes", "text"]
theorem sc_is_link : FnScope N_is_link P_is_link (defScope s_is_link) := ⟨rfl, rfl, rfl, by decide +kernel, rfl, by decide +kernel, by decide +kernel⟩
abbrev N_check_nodes : List Str := ["variables", "nodes", "number", "messages", "message"]
abbrev P_check_nodes : List Str := ["variables", "nodes"]
theorem sc_check_nodes : FnScope N_check_nodes P_check_nodes (defScope s_check_nodes) := ⟨rfl, rfl, rfl, by decide +kernel, rfl, by decide +kernel, by decide +kernel⟩
abbrev N_check_links : List Str := ["nodes", "links", "number", "link"]
abbrev P_check_links : List Str := ["nodes", "links"]
theorem sc_check_links : FnScope N_check_links P_check_links (defScope s_check_links) := ⟨rfl, rfl, rfl, by decide +kernel, rfl, by decide +kernel, by decide +kernel⟩
abbrev N_Network_init : List Str := ["self", "variables", "nodes", "links", "messages"]
abbrev P_Network_init : List Str := ["self", "variables", "nodes", "links"]
theorem sc_Network_init : FnScope N_Network_init P_Network_init (defScope s_Network_init) := ⟨rfl, rfl, rfl, by decide +kernel, rfl, by decide +kernel, by decide +kernel⟩
abbrev N_Network_node_letters : List Str := ["self"]
abbrev P_Network_node_letters : List Str := ["self"]
theorem sc_Network_node_letters : FnScope N_Network_node_letters P_Network_node_letters (defScope s_Network_node_letters) := ⟨rfl, rfl, rfl, by decide +kernel, rfl, by decide +kernel, by decide +kernel⟩
abbrev N_node_number : List Str := ["network", "node"]
abbrev P_node_number : List Str := ["network", "node"]
theorem sc_node_number : FnScope N_node_number P_node_number (defScope s_node_number) := ⟨rfl, rfl, rfl, by decide +kernel, rfl, by decide +kernel, by decide +kernel⟩
abbrev N_mask_of : List Str := ["text", "found", "last", "letter", "place"]
abbrev P_mask_of : List Str := ["text"]
theorem sc_mask_of : FnScope N_mask_of P_mask_of (defScope s_mask_of) := ⟨rfl, rfl, rfl, by decide +kernel, rfl, by decide +kernel, by decide +kernel⟩
abbrev N_text_of : List Str := ["mask", "place", "letter"]
abbrev P_text_of : List Str := ["mask"]
theorem sc_text_of : FnScope N_text_of P_text_of (defScope s_text_of) := ⟨rfl, rfl, rfl, by decide +kernel, rfl, by decide +kernel, by decide +kernel⟩
abbrev N_Span_init : List Str := ["self", "masks", "mask"]
abbrev P_Span_init : List Str := ["self", "masks"]
theorem sc_Span_init : FnScope N_Span_init P_Span_init (defScope s_Span_init) := ⟨rfl, rfl, rfl, by decide +kernel, rfl, by decide +kernel, by decide +kernel⟩
abbrev N_Span_rank : List Str := ["self"]
abbrev P_Span_rank : List Str := ["self"]
theorem sc_Span_rank : FnScope N_Span_rank P_Span_rank (defScope s_Span_rank) := ⟨rfl, rfl, rfl, by decide +kernel, rfl, by decide +kernel, by decide +kernel⟩
abbrev N_Span_left : List Str := ["self", "mask", "row"]
abbrev P_Span_left : List Str := ["self", "mask"]
theorem sc_Span_left : FnScope N_Span_left P_Span_left (defScope s_Span_left) := ⟨rfl, rfl, rfl, by decide +kernel, rfl, by decide +kernel, by decide +kernel⟩
abbrev N_Span_has : List Str := ["self", "mask"]
abbrev P_Span_has : List Str := ["self", "mask"]
theorem sc_Span_has : FnScope N_Span_has P_Span_has (defScope s_Span_has) := ⟨rfl, rfl, rfl, by decide +kernel, rfl, by decide +kernel, by decide +kernel⟩
abbrev N_Span_add : List Str := ["self", "mask", "left"]
abbrev P_Span_add : List Str := ["self", "mask"]
theorem sc_Span_add : FnScope N_Span_add P_Span_add (defScope s_Span_add) := ⟨rfl, rfl, rfl, by decide +kernel, rfl, by decide +kernel, by decide +kernel⟩
abbrev N_basis : List Str := ["messages", "span", "number", "message"]
abbrev P_basis : List Str := ["messages"]
theorem sc_basis : FnScope N_basis P_basis (defScope s_basis) := ⟨rfl, rfl, rfl, by decide +kernel, rfl, by decide +kernel, by decide +kernel⟩
abbrev N_Course_init : List Str := ["self", "network", "messages", "message", "masks"]
abbrev P_Course_init : List Str := ["self", "network"]
theorem sc_Course_init : FnScope N_Course_init P_Course_init (defScope s_Course_init) := ⟨rfl, rfl, rfl, by decide +kernel, rfl, by decide +kernel, by decide +kernel⟩
abbrev N_Course_ends : List Str := ["self", "link", "sender", "receiver"]
abbrev P_Course_ends : List Str := ["self", "link"]
theorem sc_Course_ends : FnScope N_Course_ends P_Course_ends (defScope s_Course_ends) := ⟨rfl, rfl, rfl, by decide +kernel, rfl, by decide +kernel, by decide +kernel⟩
abbrev N_Course_can : List Str := ["self", "step", "link", "parity", "mask"]
abbrev P_Course_can : List Str := ["self", "step"]
theorem sc_Course_can : FnScope N_Course_can P_Course_can (defScope s_Course_can) := ⟨rfl, rfl, rfl, by decide +kernel, rfl, by decide +kernel, by decide +kernel⟩
abbrev N_Course_mask : List Str := ["self", "parity", "found"]
abbrev P_Course_mask : List Str := ["self", "parity"]
theorem sc_Course_mask : FnScope N_Course_mask P_Course_mask (defScope s_Course_mask) := ⟨rfl, rfl, rfl, by decide +kernel, rfl, by decide +kernel, by decide +kernel⟩
abbrev N_Course_do : List Str := ["self", "step", "link", "parity", "mask", "receiver"]
abbrev P_Course_do : List Str := ["self", "step"]
theorem sc_Course_do : FnScope N_Course_do P_Course_do (defScope s_Course_do) := ⟨rfl, rfl, rfl, by decide +kernel, rfl, by decide +kernel, by decide +kernel⟩
abbrev N_Course_whole : List Str := ["self", "messages", "message"]
abbrev P_Course_whole : List Str := ["self"]
theorem sc_Course_whole : FnScope N_Course_whole P_Course_whole (defScope s_Course_whole) := ⟨rfl, rfl, rfl, by decide +kernel, rfl, by decide +kernel, by decide +kernel⟩
abbrev N_fault : List Str := ["network", "steps", "course", "number", "step"]
abbrev P_fault : List Str := ["network", "steps"]
theorem sc_fault : FnScope N_fault P_fault (defScope s_fault) := ⟨rfl, rfl, rfl, by decide +kernel, rfl, by decide +kernel, by decide +kernel⟩
abbrev N_done : List Str := ["network", "steps", "wrong", "course", "step"]
abbrev P_done : List Str := ["network", "steps"]
theorem sc_done : FnScope N_done P_done (defScope s_done) := ⟨rfl, rfl, rfl, by decide +kernel, rfl, by decide +kernel, by decide +kernel⟩
abbrev N_ranks : List Str := ["network", "steps", "span"]
abbrev P_ranks : List Str := ["network", "steps"]
theorem sc_ranks : FnScope N_ranks P_ranks (defScope s_ranks) := ⟨rfl, rfl, rfl, by decide +kernel, rfl, by decide +kernel, by decide +kernel⟩
abbrev N_informed : List Str := ["network", "steps", "course", "whole", "number", "span"]
abbrev P_informed : List Str := ["network", "steps"]
theorem sc_informed : FnScope N_informed P_informed (defScope s_informed) := ⟨rfl, rfl, rfl, by decide +kernel, rfl, by decide +kernel, by decide +kernel⟩
abbrev N_known : List Str := ["network", "steps", "node", "course", "texts", "mask", "number"]
abbrev P_known : List Str := ["network", "steps", "node"]
theorem sc_known : FnScope N_known P_known (defScope s_known) := ⟨rfl, rfl, rfl, by decide +kernel, rfl, by decide +kernel, by decide +kernel⟩
abbrev N_idle_steps : List Str := ["network", "steps", "news", "number", "is_new"]
abbrev P_idle_steps : List Str := ["network", "steps"]
theorem sc_idle_steps : FnScope N_idle_steps P_idle_steps (defScope s_idle_steps) := ⟨rfl, rfl, rfl, by decide +kernel, rfl, by decide +kernel, by decide +kernel⟩
abbrev N_can_swap : List Str := ["network", "steps", "number", "found"]
abbrev P_can_swap : List Str := ["network", "steps", "number"]
theorem sc_can_swap : FnScope N_can_swap P_can_swap (defScope s_can_swap) := ⟨rfl, rfl, rfl, by decide +kernel, rfl, by decide +kernel, by decide +kernel⟩
abbrev N__law_pool : List Str := ["_law_script", "_law_cell"]
abbrev P__law_pool : List Str := ["_law_script"]
theorem sc__law_pool : FnScope N__law_pool P__law_pool (defScope s__law_pool) := ⟨rfl, rfl, rfl, by decide +kernel, rfl, by decide +kernel, by decide +kernel⟩
abbrev N__law_take : List Str := ["_law_pool_here", "_law_many", "_law_digit", "_law_cell", "_law_mixed"]
abbrev P__law_take : List Str := ["_law_pool_here", "_law_many"]
theorem sc__law_take : FnScope N__law_take P__law_take (defScope s__law_take) := ⟨rfl, rfl, rfl, by decide +kernel, rfl, by decide +kernel, by decide +kernel⟩
abbrev N__law_is_integer : List Str := ["_law_actual"]
abbrev P__law_is_integer : List Str := ["_law_actual"]
theorem sc__law_is_integer : FnScope N__law_is_integer P__law_is_integer (defScope s__law_is_integer) := ⟨rfl, rfl, rfl, by decide +kernel, rfl, by decide +kernel, by decide +kernel⟩
abbrev N__law_same : List Str := ["_law_actual", "_law_due", "_law_k"]
abbrev P__law_same : List Str := ["_law_actual", "_law_due"]
theorem sc__law_same : FnScope N__law_same P__law_same (defScope s__law_same) := ⟨rfl, rfl, rfl, by decide +kernel, rfl, by decide +kernel, by decide +kernel⟩
abbrev N__law_pick : List Str := ["_law_pool_here", "_law_rows"]
abbrev P__law_pick : List Str := ["_law_pool_here", "_law_rows"]
theorem sc__law_pick : FnScope N__law_pick P__law_pick (defScope s__law_pick) := ⟨rfl, rfl, rfl, by decide +kernel, rfl, by decide +kernel, by decide +kernel⟩
abbrev N__law_parity : List Str := ["_law_pool_here", "_law_variables", "_law_letters", "_law_letter"]
abbrev P__law_parity : List Str := ["_law_pool_here", "_law_variables"]
theorem sc__law_parity : FnScope N__law_parity P__law_parity (defScope s__law_parity) := ⟨rfl, rfl, rfl, by decide +kernel, rfl, by decide +kernel, by decide +kernel⟩
abbrev N__law_message : List Str := ["_law_pool_here", "_law_variables", "_law_letters", "_law_found"]
abbrev P__law_message : List Str := ["_law_pool_here", "_law_variables"]
theorem sc__law_message : FnScope N__law_message P__law_message (defScope s__law_message) := ⟨rfl, rfl, rfl, by decide +kernel, rfl, by decide +kernel, by decide +kernel⟩
abbrev N__law_sum : List Str := ["_law_texts", "_law_whole", "_law_letter"]
abbrev P__law_sum : List Str := ["_law_texts"]
theorem sc__law_sum : FnScope N__law_sum P__law_sum (defScope s__law_sum) := ⟨rfl, rfl, rfl, by decide +kernel, rfl, by decide +kernel, by decide +kernel⟩
abbrev N__law_derived : List Str := ["_law_messages", "_law_found", "_law_message_here", "_law_one"]
abbrev P__law_derived : List Str := ["_law_messages"]
theorem sc__law_derived : FnScope N__law_derived P__law_derived (defScope s__law_derived) := ⟨rfl, rfl, rfl, by decide +kernel, rfl, by decide +kernel, by decide +kernel⟩
abbrev N__law_rank : List Str := ["_law_messages", "_law_many", "_law_found", "_law_turn"]
abbrev P__law_rank : List Str := ["_law_messages"]
theorem sc__law_rank : FnScope N__law_rank P__law_rank (defScope s__law_rank) := ⟨rfl, rfl, rfl, by decide +kernel, rfl, by decide +kernel, by decide +kernel⟩
abbrev N__law_some_messages : List Str := ["_law_pool_here", "_law_variables", "_law_most", "_law_k"]
abbrev P__law_some_messages : List Str := ["_law_pool_here", "_law_variables", "_law_most"]
theorem sc__law_some_messages : FnScope N__law_some_messages P__law_some_messages (defScope s__law_some_messages) := ⟨rfl, rfl, rfl, by decide +kernel, rfl, by decide +kernel, by decide +kernel⟩
abbrev N__law_drawn : List Str := ["_law_pool_here", "_law_nodes", "_law_links", "_law_variables", "_law_rows", "_law_letters", "_law_found", "_law_k", "_law_sender", "_law_receiver"]
abbrev P__law_drawn : List Str := ["_law_pool_here", "_law_nodes", "_law_links"]
theorem sc__law_drawn : FnScope N__law_drawn P__law_drawn (defScope s__law_drawn) := ⟨rfl, rfl, rfl, by decide +kernel, rfl, by decide +kernel, by decide +kernel⟩
abbrev N__law_filled : List Str := ["_law_pool_here", "_law_nodes", "_law_links", "_law_network_here", "_law_turn", "_law_lacking", "_law_letters", "_law_others", "_law_letter"]
abbrev P__law_filled : List Str := ["_law_pool_here", "_law_nodes", "_law_links"]
theorem sc__law_filled : FnScope N__law_filled P__law_filled (defScope s__law_filled) := ⟨rfl, rfl, rfl, by decide +kernel, rfl, by decide +kernel, by decide +kernel⟩
abbrev N__law_network : List Str := ["_law_pool_here", "_law_nodes", "_law_links", "_law_kind", "_law_network_here", "_law_at", "_law_link"]
abbrev P__law_network : List Str := ["_law_pool_here", "_law_nodes", "_law_links"]
theorem sc__law_network : FnScope N__law_network P__law_network (defScope s__law_network) := ⟨rfl, rfl, rfl, by decide +kernel, rfl, by decide +kernel, by decide +kernel⟩
abbrev N__law_shaped : List Str := ["_law_pool_here", "_law_rows"]
abbrev P__law_shaped : List Str := ["_law_pool_here", "_law_rows"]
theorem sc__law_shaped : FnScope N__law_shaped P__law_shaped (defScope s__law_shaped) := ⟨rfl, rfl, rfl, by decide +kernel, rfl, by decide +kernel, by decide +kernel⟩
abbrev N__law_handed : List Str := ["_law_pool_here", "_law_network_here", "_law_nodes", "_law_messages"]
abbrev P__law_handed : List Str := ["_law_pool_here", "_law_network_here"]
theorem sc__law_handed : FnScope N__law_handed P__law_handed (defScope s__law_handed) := ⟨rfl, rfl, rfl, by decide +kernel, rfl, by decide +kernel, by decide +kernel⟩
abbrev N__law_sets : List Str := ["_law_many", "_law_found", "_law_letter", "_law_one", "_law_pair"]
abbrev P__law_sets : List Str := ["_law_many"]
theorem sc__law_sets : FnScope N__law_sets P__law_sets (defScope s__law_sets) := ⟨rfl, rfl, rfl, by decide +kernel, rfl, by decide +kernel, by decide +kernel⟩
abbrev N__law_messages_of : List Str := ["_law_network_here", "_law_letters", "_law_found", "_law_k"]
abbrev P__law_messages_of : List Str := ["_law_network_here", "_law_letters"]
theorem sc__law_messages_of : FnScope N__law_messages_of P__law_messages_of (defScope s__law_messages_of) := ⟨rfl, rfl, rfl, by decide +kernel, rfl, by decide +kernel, by decide +kernel⟩
abbrev N__law_demand : List Str := ["_law_network_here", "_law_letters"]
abbrev P__law_demand : List Str := ["_law_network_here", "_law_letters"]
theorem sc__law_demand : FnScope N__law_demand P__law_demand (defScope s__law_demand) := ⟨rfl, rfl, rfl, by decide +kernel, rfl, by decide +kernel, by decide +kernel⟩
abbrev N__law_entering : List Str := ["_law_network_here", "_law_letters", "_law_k"]
abbrev P__law_entering : List Str := ["_law_network_here", "_law_letters"]
theorem sc__law_entering : FnScope N__law_entering P__law_entering (defScope s__law_entering) := ⟨rfl, rfl, rfl, by decide +kernel, rfl, by decide +kernel, by decide +kernel⟩
abbrev N__law_deficient : List Str := ["_law_network_here", "_law_letters"]
abbrev P__law_deficient : List Str := ["_law_network_here"]
theorem sc__law_deficient : FnScope N__law_deficient P__law_deficient (defScope s__law_deficient) := ⟨rfl, rfl, rfl, by decide +kernel, rfl, by decide +kernel, by decide +kernel⟩
abbrev N__law_begin : List Str := ["_law_network_here", "_law_found", "_law_k", "_law_j"]
abbrev P__law_begin : List Str := ["_law_network_here"]
theorem sc__law_begin : FnScope N__law_begin P__law_begin (defScope s__law_begin) := ⟨rfl, rfl, rfl, by decide +kernel, rfl, by decide +kernel, by decide +kernel⟩
abbrev N__law_possible : List Str := ["_law_network_here", "_law_has", "_law_used", "_law_found", "_law_link", "_law_sender", "_law_receiver", "_law_heard", "_law_origin", "_law_index", "_law_text", "_law_row"]
abbrev P__law_possible : List Str := ["_law_network_here", "_law_has", "_law_used"]
theorem sc__law_possible : FnScope N__law_possible P__law_possible (defScope s__law_possible) := ⟨rfl, rfl, rfl, by decide +kernel, rfl, by decide +kernel, by decide +kernel⟩
abbrev N__law_sent : List Str := ["_law_network_here", "_law_has", "_law_step", "_law_link", "_law_origin", "_law_index", "_law_receiver", "_law_text"]
abbrev P__law_sent : List Str := ["_law_network_here", "_law_has", "_law_step"]
theorem sc__law_sent : FnScope N__law_sent P__law_sent (defScope s__law_sent) := ⟨rfl, rfl, rfl, by decide +kernel, rfl, by decide +kernel, by decide +kernel⟩
abbrev N__law_is_complete : List Str := ["_law_network_here", "_law_has", "_law_whole", "_law_rows", "_law_row"]
abbrev P__law_is_complete : List Str := ["_law_network_here", "_law_has"]
theorem sc__law_is_complete : FnScope N__law_is_complete P__law_is_complete (defScope s__law_is_complete) := ⟨rfl, rfl, rfl, by decide +kernel, rfl, by decide +kernel, by decide +kernel⟩
abbrev N__law_some_sent : List Str := ["_law_pool_here", "_law_network_here", "_law_most", "_law_has", "_law_steps", "_law_turn", "_law_rows", "_law_step"]
abbrev P__law_some_sent : List Str := ["_law_pool_here", "_law_network_here", "_law_most"]
theorem sc__law_some_sent : FnScope N__law_some_sent P__law_some_sent (defScope s__law_some_sent) := ⟨rfl, rfl, rfl, by decide +kernel, rfl, by decide +kernel, by decide +kernel⟩
abbrev N__law_run : List Str := ["_law_pool_here", "_law_network_here", "_law_most", "_law_has", "_law_rows", "_law_steps", "_law_free", "_law_k", "_law_link", "_law_sender", "_law_receiver", "_law_parity_here", "_law_messages"]
abbrev P__law_run : List Str := ["_law_pool_here", "_law_network_here", "_law_most"]
theorem sc__law_run : FnScope N__law_run P__law_run (defScope s__law_run) := ⟨rfl, rfl, rfl, by decide +kernel, rfl, by decide +kernel, by decide +kernel⟩
abbrev N__law_is_bounded : List Str := ["_law_made", "_law_network_here", "_law_steps", "_law_letters", "_law_together", "_law_letter", "_law_inward", "_law_step"]
abbrev P__law_is_bounded : List Str := ["_law_made", "_law_network_here", "_law_steps"]
theorem sc__law_is_bounded : FnScope N__law_is_bounded P__law_is_bounded (defScope s__law_is_bounded) := ⟨rfl, rfl, rfl, by decide +kernel, rfl, by decide +kernel, by decide +kernel⟩
abbrev N_law : List Str := ["_law_script", "_law_pool_here", "_law_rows", "_law_handed_here", "_law_network_here", "_law_told", "_law_steps", "_law_k", "_law_later", "_law_sender", "_law_due", "_law_sent_here", "_law_has", "_law_coded", "_law_everybody", "_law_link", "_law_origin", "_law_index"]
abbrev P_law : List Str := ["_law_script"]
theorem sc_law : FnScope N_law P_law (defScope s_law) := ⟨rfl, rfl, rfl, by decide +kernel, rfl, by decide +kernel, by decide +kernel⟩
/-! ### the head: facts and defs by names -/
def fa0 : List He.Fa := [.glo "is_ascending", .glo "is_message", .glo "is_link", .glo "check_nodes", .glo "check_links", .glo "node_number", .glo "mask_of", .glo "text_of", .glo "basis", .glo "fault", .glo "done", .glo "ranks", .glo "informed", .glo "known", .glo "idle_steps", .glo "can_swap", .glo "_law_pool", .glo "_law_take", .glo "_law_is_integer", .glo "_law_same"]
def fa1 : List He.Fa := [.glo "_law_pick", .glo "_law_parity", .glo "_law_message", .glo "_law_sum", .glo "_law_derived", .glo "_law_rank", .glo "_law_some_messages", .glo "_law_drawn", .glo "_law_filled", .glo "_law_network", .glo "_law_shaped", .glo "_law_handed", .glo "_law_sets", .glo "_law_messages_of", .glo "_law_demand", .glo "_law_entering", .glo "_law_deficient", .glo "_law_begin", .glo "_law_possible", .glo "_law_sent"]
def fa2 : List He.Fa := [.glo "_law_is_complete", .glo "_law_some_sent", .glo "_law_run", .glo "_law_is_bounded", .glo "law", .glo "Network", .glo "Span", .glo "Course", .glo "BadParity", .free "len", .free "range", .free "int", .free "list", .free "tuple", .free "sorted", .free "min", .free "all", .free "isinstance", .free "enumerate", .free "zip"]
def fa3 : List He.Fa := [.free "bool", .free "str", .str "VARIABLE_LETTERS" "abcdef", .str "NODE_LETTERS" "ABCDEF", .str "LETTERS" "abcdefgh", .int "MOST_MESSAGES" 4, .int "MOST_LINKS" 16, .cls "Network", .mkr "Network", .noat "Network" "variables", .noat "Network" "nodes", .noat "Network" "links", .cls "Span", .mkr "Span", .noat "Span" "rows", .cls "Course", .mkr "Course", .noat "Course" "network", .noat "Course" "has", .noat "Course" "spans"]
def fa4 : List He.Fa := [.noat "Course" "used", .meth "Network" "node_letters", .meth "Span" "rank", .meth "Span" "left", .meth "Span" "has", .meth "Span" "add", .meth "Course" "ends", .meth "Course" "can", .meth "Course" "mask", .meth "Course" "do", .meth "Course" "whole"]
def fa : List He.Fa := fa0 ++ (fa1 ++ (fa2 ++ (fa3 ++ (fa4))))
def d_is_ascending : He.DefD := ⟨("is_ascending", none), "is_ascending", "is_ascending", defArgs s_is_ascending, defBody s_is_ascending, defScope s_is_ascending, [], []⟩
def d_is_message : He.DefD := ⟨("is_message", none), "is_message", "is_message", defArgs s_is_message, defBody s_is_message, defScope s_is_message, [], []⟩
def d_is_link : He.DefD := ⟨("is_link", none), "is_link", "is_link", defArgs s_is_link, defBody s_is_link, defScope s_is_link, [], []⟩
def d_check_nodes : He.DefD := ⟨("check_nodes", none), "check_nodes", "check_nodes", defArgs s_check_nodes, defBody s_check_nodes, defScope s_check_nodes, [], []⟩
def d_check_links : He.DefD := ⟨("check_links", none), "check_links", "check_links", defArgs s_check_links, defBody s_check_links, defScope s_check_links, [], []⟩
def d_Network_init : He.DefD := ⟨("Network", some "__init__"), "__init__", "Network.__init__", defArgs s_Network_init, defBody s_Network_init, defScope s_Network_init, [], []⟩
def d_Network_node_letters : He.DefD := ⟨("Network", some "node_letters"), "node_letters", "Network.node_letters", defArgs s_Network_node_letters, defBody s_Network_node_letters, defScope s_Network_node_letters, [], []⟩
def d_node_number : He.DefD := ⟨("node_number", none), "node_number", "node_number", defArgs s_node_number, defBody s_node_number, defScope s_node_number, [], []⟩
def d_mask_of : He.DefD := ⟨("mask_of", none), "mask_of", "mask_of", defArgs s_mask_of, defBody s_mask_of, defScope s_mask_of, [], []⟩
def d_text_of : He.DefD := ⟨("text_of", none), "text_of", "text_of", defArgs s_text_of, defBody s_text_of, defScope s_text_of, [], []⟩
def d_Span_init : He.DefD := ⟨("Span", some "__init__"), "__init__", "Span.__init__", defArgs s_Span_init, defBody s_Span_init, defScope s_Span_init, [.adr (He.dflAt ("Span", some "__init__") 0)], []⟩
def d_Span_rank : He.DefD := ⟨("Span", some "rank"), "rank", "Span.rank", defArgs s_Span_rank, defBody s_Span_rank, defScope s_Span_rank, [], []⟩
def d_Span_left : He.DefD := ⟨("Span", some "left"), "left", "Span.left", defArgs s_Span_left, defBody s_Span_left, defScope s_Span_left, [], []⟩
def d_Span_has : He.DefD := ⟨("Span", some "has"), "has", "Span.has", defArgs s_Span_has, defBody s_Span_has, defScope s_Span_has, [], []⟩
def d_Span_add : He.DefD := ⟨("Span", some "add"), "add", "Span.add", defArgs s_Span_add, defBody s_Span_add, defScope s_Span_add, [], []⟩
def d_basis : He.DefD := ⟨("basis", none), "basis", "basis", defArgs s_basis, defBody s_basis, defScope s_basis, [], []⟩
def d_Course_init : He.DefD := ⟨("Course", some "__init__"), "__init__", "Course.__init__", defArgs s_Course_init, defBody s_Course_init, defScope s_Course_init, [], []⟩
def d_Course_ends : He.DefD := ⟨("Course", some "ends"), "ends", "Course.ends", defArgs s_Course_ends, defBody s_Course_ends, defScope s_Course_ends, [], []⟩
def d_Course_can : He.DefD := ⟨("Course", some "can"), "can", "Course.can", defArgs s_Course_can, defBody s_Course_can, defScope s_Course_can, [], []⟩
def d_Course_mask : He.DefD := ⟨("Course", some "mask"), "mask", "Course.mask", defArgs s_Course_mask, defBody s_Course_mask, defScope s_Course_mask, [], []⟩
def d_Course_do : He.DefD := ⟨("Course", some "do"), "do", "Course.do", defArgs s_Course_do, defBody s_Course_do, defScope s_Course_do, [], []⟩
def d_Course_whole : He.DefD := ⟨("Course", some "whole"), "whole", "Course.whole", defArgs s_Course_whole, defBody s_Course_whole, defScope s_Course_whole, [], []⟩
def d_fault : He.DefD := ⟨("fault", none), "fault", "fault", defArgs s_fault, defBody s_fault, defScope s_fault, [], []⟩
def d_done : He.DefD := ⟨("done", none), "done", "done", defArgs s_done, defBody s_done, defScope s_done, [], []⟩
def d_ranks : He.DefD := ⟨("ranks", none), "ranks", "ranks", defArgs s_ranks, defBody s_ranks, defScope s_ranks, [], []⟩
def d_informed : He.DefD := ⟨("informed", none), "informed", "informed", defArgs s_informed, defBody s_informed, defScope s_informed, [], []⟩
def d_known : He.DefD := ⟨("known", none), "known", "known", defArgs s_known, defBody s_known, defScope s_known, [], []⟩
def d_idle_steps : He.DefD := ⟨("idle_steps", none), "idle_steps", "idle_steps", defArgs s_idle_steps, defBody s_idle_steps, defScope s_idle_steps, [], []⟩
def d_can_swap : He.DefD := ⟨("can_swap", none), "can_swap", "can_swap", defArgs s_can_swap, defBody s_can_swap, defScope s_can_swap, [], []⟩
def d__law_pool : He.DefD := ⟨("_law_pool", none), "_law_pool", "_law_pool", defArgs s__law_pool, defBody s__law_pool, defScope s__law_pool, [], []⟩
def d__law_take : He.DefD := ⟨("_law_take", none), "_law_take", "_law_take", defArgs s__law_take, defBody s__law_take, defScope s__law_take, [], []⟩
def d__law_is_integer : He.DefD := ⟨("_law_is_integer", none), "_law_is_integer", "_law_is_integer", defArgs s__law_is_integer, defBody s__law_is_integer, defScope s__law_is_integer, [], []⟩
def d__law_same : He.DefD := ⟨("_law_same", none), "_law_same", "_law_same", defArgs s__law_same, defBody s__law_same, defScope s__law_same, [], []⟩
def d__law_pick : He.DefD := ⟨("_law_pick", none), "_law_pick", "_law_pick", defArgs s__law_pick, defBody s__law_pick, defScope s__law_pick, [], []⟩
def d__law_parity : He.DefD := ⟨("_law_parity", none), "_law_parity", "_law_parity", defArgs s__law_parity, defBody s__law_parity, defScope s__law_parity, [], []⟩
def d__law_message : He.DefD := ⟨("_law_message", none), "_law_message", "_law_message", defArgs s__law_message, defBody s__law_message, defScope s__law_message, [], []⟩
def d__law_sum : He.DefD := ⟨("_law_sum", none), "_law_sum", "_law_sum", defArgs s__law_sum, defBody s__law_sum, defScope s__law_sum, [], []⟩
def d__law_derived : He.DefD := ⟨("_law_derived", none), "_law_derived", "_law_derived", defArgs s__law_derived, defBody s__law_derived, defScope s__law_derived, [], []⟩
def d__law_rank : He.DefD := ⟨("_law_rank", none), "_law_rank", "_law_rank", defArgs s__law_rank, defBody s__law_rank, defScope s__law_rank, [], []⟩
def d__law_some_messages : He.DefD := ⟨("_law_some_messages", none), "_law_some_messages", "_law_some_messages", defArgs s__law_some_messages, defBody s__law_some_messages, defScope s__law_some_messages, [], []⟩
def d__law_drawn : He.DefD := ⟨("_law_drawn", none), "_law_drawn", "_law_drawn", defArgs s__law_drawn, defBody s__law_drawn, defScope s__law_drawn, [], []⟩
def d__law_filled : He.DefD := ⟨("_law_filled", none), "_law_filled", "_law_filled", defArgs s__law_filled, defBody s__law_filled, defScope s__law_filled, [], []⟩
def d__law_network : He.DefD := ⟨("_law_network", none), "_law_network", "_law_network", defArgs s__law_network, defBody s__law_network, defScope s__law_network, [], []⟩
def d__law_shaped : He.DefD := ⟨("_law_shaped", none), "_law_shaped", "_law_shaped", defArgs s__law_shaped, defBody s__law_shaped, defScope s__law_shaped, [], []⟩
def d__law_handed : He.DefD := ⟨("_law_handed", none), "_law_handed", "_law_handed", defArgs s__law_handed, defBody s__law_handed, defScope s__law_handed, [], []⟩
def d__law_sets : He.DefD := ⟨("_law_sets", none), "_law_sets", "_law_sets", defArgs s__law_sets, defBody s__law_sets, defScope s__law_sets, [], []⟩
def d__law_messages_of : He.DefD := ⟨("_law_messages_of", none), "_law_messages_of", "_law_messages_of", defArgs s__law_messages_of, defBody s__law_messages_of, defScope s__law_messages_of, [], []⟩
def d__law_demand : He.DefD := ⟨("_law_demand", none), "_law_demand", "_law_demand", defArgs s__law_demand, defBody s__law_demand, defScope s__law_demand, [], []⟩
def d__law_entering : He.DefD := ⟨("_law_entering", none), "_law_entering", "_law_entering", defArgs s__law_entering, defBody s__law_entering, defScope s__law_entering, [], []⟩
def d__law_deficient : He.DefD := ⟨("_law_deficient", none), "_law_deficient", "_law_deficient", defArgs s__law_deficient, defBody s__law_deficient, defScope s__law_deficient, [], []⟩
def d__law_begin : He.DefD := ⟨("_law_begin", none), "_law_begin", "_law_begin", defArgs s__law_begin, defBody s__law_begin, defScope s__law_begin, [], []⟩
def d__law_possible : He.DefD := ⟨("_law_possible", none), "_law_possible", "_law_possible", defArgs s__law_possible, defBody s__law_possible, defScope s__law_possible, [], []⟩
def d__law_sent : He.DefD := ⟨("_law_sent", none), "_law_sent", "_law_sent", defArgs s__law_sent, defBody s__law_sent, defScope s__law_sent, [], []⟩
def d__law_is_complete : He.DefD := ⟨("_law_is_complete", none), "_law_is_complete", "_law_is_complete", defArgs s__law_is_complete, defBody s__law_is_complete, defScope s__law_is_complete, [], []⟩
def d__law_some_sent : He.DefD := ⟨("_law_some_sent", none), "_law_some_sent", "_law_some_sent", defArgs s__law_some_sent, defBody s__law_some_sent, defScope s__law_some_sent, [], []⟩
def d__law_run : He.DefD := ⟨("_law_run", none), "_law_run", "_law_run", defArgs s__law_run, defBody s__law_run, defScope s__law_run, [], []⟩
def d__law_is_bounded : He.DefD := ⟨("_law_is_bounded", none), "_law_is_bounded", "_law_is_bounded", defArgs s__law_is_bounded, defBody s__law_is_bounded, defScope s__law_is_bounded, [], []⟩
def d_law : He.DefD := ⟨("law", none), "law", "law", defArgs s_law, defBody s_law, defScope s_law, [], []⟩
def fn0 : List He.DefD := [d_is_ascending, d_is_message, d_is_link, d_check_nodes, d_check_links, d_Network_init, d_Network_node_letters, d_node_number, d_mask_of, d_text_of, d_Span_init, d_Span_rank, d_Span_left, d_Span_has, d_Span_add, d_basis, d_Course_init, d_Course_ends, d_Course_can, d_Course_mask]
def fn1 : List He.DefD := [d_Course_do, d_Course_whole, d_fault, d_done, d_ranks, d_informed, d_known, d_idle_steps, d_can_swap, d__law_pool, d__law_take, d__law_is_integer, d__law_same, d__law_pick, d__law_parity, d__law_message, d__law_sum, d__law_derived, d__law_rank, d__law_some_messages]
def fn2 : List He.DefD := [d__law_drawn, d__law_filled, d__law_network, d__law_shaped, d__law_handed, d__law_sets, d__law_messages_of, d__law_demand, d__law_entering, d__law_deficient, d__law_begin, d__law_possible, d__law_sent, d__law_is_complete, d__law_some_sent, d__law_run, d__law_is_bounded, d_law]
def fn : List He.DefD := fn0 ++ (fn1 ++ (fn2))
def lo0 : List Str := ["_wall", "KnowError", "VARIABLE_LETTERS", "NODE_LETTERS", "MOST_MESSAGES", "MOST_LINKS", "BadNetwork", "NoNode", "is_ascending", "is_message", "is_link", "check_nodes", "check_links", "Network", "node_number", "LETTERS", "BadParity", "mask_of", "text_of", "Span"]
def lo1 : List Str := ["basis", "Fault", "Course", "fault", "done", "ranks", "informed", "known", "idle_steps", "can_swap", "_law_pool", "_law_take", "_law_is_integer", "_law_same", "_law_pick", "_law_parity", "_law_message", "_law_sum", "_law_derived", "_law_rank"]
def lo2 : List Str := ["_law_some_messages", "_law_drawn", "_law_filled", "_law_network", "_law_shaped", "_law_handed", "_law_sets", "_law_messages_of", "_law_demand", "_law_entering", "_law_deficient", "_law_begin", "_law_possible", "_law_sent", "_law_is_complete", "_law_some_sent", "_law_run", "_law_is_bounded"]
def lo : List Str := lo0 ++ (lo1 ++ (lo2))
def lawIx : Nat := 63
/-- what the top has written, each fact by its name -/
structure TW (K : PySem.W.Frag) (mg : Str → Option Value) : Prop where
  g_is_ascending : mg "is_ascending" = some (.ref (He.ga K "is_ascending"))
  g_is_message : mg "is_message" = some (.ref (He.ga K "is_message"))
  g_is_link : mg "is_link" = some (.ref (He.ga K "is_link"))
  g_check_nodes : mg "check_nodes" = some (.ref (He.ga K "check_nodes"))
  g_check_links : mg "check_links" = some (.ref (He.ga K "check_links"))
  g_node_number : mg "node_number" = some (.ref (He.ga K "node_number"))
  g_mask_of : mg "mask_of" = some (.ref (He.ga K "mask_of"))
  g_text_of : mg "text_of" = some (.ref (He.ga K "text_of"))
  g_basis : mg "basis" = some (.ref (He.ga K "basis"))
  g_fault : mg "fault" = some (.ref (He.ga K "fault"))
  g_done : mg "done" = some (.ref (He.ga K "done"))
  g_ranks : mg "ranks" = some (.ref (He.ga K "ranks"))
  g_informed : mg "informed" = some (.ref (He.ga K "informed"))
  g_known : mg "known" = some (.ref (He.ga K "known"))
  g_idle_steps : mg "idle_steps" = some (.ref (He.ga K "idle_steps"))
  g_can_swap : mg "can_swap" = some (.ref (He.ga K "can_swap"))
  g__law_pool : mg "_law_pool" = some (.ref (He.ga K "_law_pool"))
  g__law_take : mg "_law_take" = some (.ref (He.ga K "_law_take"))
  g__law_is_integer : mg "_law_is_integer" = some (.ref (He.ga K "_law_is_integer"))
  g__law_same : mg "_law_same" = some (.ref (He.ga K "_law_same"))
  g__law_pick : mg "_law_pick" = some (.ref (He.ga K "_law_pick"))
  g__law_parity : mg "_law_parity" = some (.ref (He.ga K "_law_parity"))
  g__law_message : mg "_law_message" = some (.ref (He.ga K "_law_message"))
  g__law_sum : mg "_law_sum" = some (.ref (He.ga K "_law_sum"))
  g__law_derived : mg "_law_derived" = some (.ref (He.ga K "_law_derived"))
  g__law_rank : mg "_law_rank" = some (.ref (He.ga K "_law_rank"))
  g__law_some_messages : mg "_law_some_messages" = some (.ref (He.ga K "_law_some_messages"))
  g__law_drawn : mg "_law_drawn" = some (.ref (He.ga K "_law_drawn"))
  g__law_filled : mg "_law_filled" = some (.ref (He.ga K "_law_filled"))
  g__law_network : mg "_law_network" = some (.ref (He.ga K "_law_network"))
  g__law_shaped : mg "_law_shaped" = some (.ref (He.ga K "_law_shaped"))
  g__law_handed : mg "_law_handed" = some (.ref (He.ga K "_law_handed"))
  g__law_sets : mg "_law_sets" = some (.ref (He.ga K "_law_sets"))
  g__law_messages_of : mg "_law_messages_of" = some (.ref (He.ga K "_law_messages_of"))
  g__law_demand : mg "_law_demand" = some (.ref (He.ga K "_law_demand"))
  g__law_entering : mg "_law_entering" = some (.ref (He.ga K "_law_entering"))
  g__law_deficient : mg "_law_deficient" = some (.ref (He.ga K "_law_deficient"))
  g__law_begin : mg "_law_begin" = some (.ref (He.ga K "_law_begin"))
  g__law_possible : mg "_law_possible" = some (.ref (He.ga K "_law_possible"))
  g__law_sent : mg "_law_sent" = some (.ref (He.ga K "_law_sent"))
  g__law_is_complete : mg "_law_is_complete" = some (.ref (He.ga K "_law_is_complete"))
  g__law_some_sent : mg "_law_some_sent" = some (.ref (He.ga K "_law_some_sent"))
  g__law_run : mg "_law_run" = some (.ref (He.ga K "_law_run"))
  g__law_is_bounded : mg "_law_is_bounded" = some (.ref (He.ga K "_law_is_bounded"))
  g_law : mg "law" = some (.ref (He.ga K "law"))
  g_Network : mg "Network" = some (.ref (He.ga K "Network"))
  g_Span : mg "Span" = some (.ref (He.ga K "Span"))
  g_Course : mg "Course" = some (.ref (He.ga K "Course"))
  g_BadParity : mg "BadParity" = some (.ref (He.ga K "BadParity"))
  z_len : mg "len" = none
  z_range : mg "range" = none
  z_int : mg "int" = none
  z_list : mg "list" = none
  z_tuple : mg "tuple" = none
  z_sorted : mg "sorted" = none
  z_min : mg "min" = none
  z_all : mg "all" = none
  z_isinstance : mg "isinstance" = none
  z_enumerate : mg "enumerate" = none
  z_zip : mg "zip" = none
  z_bool : mg "bool" = none
  z_str : mg "str" = none
  v_VARIABLE_LETTERS : ∃ t, mg "VARIABLE_LETTERS" = some (.str "abcdef" t)
  v_NODE_LETTERS : ∃ t, mg "NODE_LETTERS" = some (.str "ABCDEF" t)
  v_LETTERS : ∃ t, mg "LETTERS" = some (.str "abcdefgh" t)
  v_MOST_MESSAGES : ∃ t, mg "MOST_MESSAGES" = some (.int 4 t)
  v_MOST_LINKS : ∃ t, mg "MOST_LINKS" = some (.int 16 t)
  cls_Network : Cls K (He.ga K "Network")
  mk_Network : Mk K (He.ga K "Network") (He.ma K (He.ga K "Network") "__init__")
  n_Network_variables : NoAttr K (He.ga K "Network") "variables"
  n_Network_nodes : NoAttr K (He.ga K "Network") "nodes"
  n_Network_links : NoAttr K (He.ga K "Network") "links"
  cls_Span : Cls K (He.ga K "Span")
  mk_Span : Mk K (He.ga K "Span") (He.ma K (He.ga K "Span") "__init__")
  n_Span_rows : NoAttr K (He.ga K "Span") "rows"
  cls_Course : Cls K (He.ga K "Course")
  mk_Course : Mk K (He.ga K "Course") (He.ma K (He.ga K "Course") "__init__")
  n_Course_network : NoAttr K (He.ga K "Course") "network"
  n_Course_has : NoAttr K (He.ga K "Course") "has"
  n_Course_spans : NoAttr K (He.ga K "Course") "spans"
  n_Course_used : NoAttr K (He.ga K "Course") "used"
  m_Network_node_letters : Meth K (He.ga K "Network") "node_letters" (He.ma K (He.ga K "Network") "node_letters")
  m_Span_rank : Meth K (He.ga K "Span") "rank" (He.ma K (He.ga K "Span") "rank")
  m_Span_left : Meth K (He.ga K "Span") "left" (He.ma K (He.ga K "Span") "left")
  m_Span_has : Meth K (He.ga K "Span") "has" (He.ma K (He.ga K "Span") "has")
  m_Span_add : Meth K (He.ga K "Span") "add" (He.ma K (He.ga K "Span") "add")
  m_Course_ends : Meth K (He.ga K "Course") "ends" (He.ma K (He.ga K "Course") "ends")
  m_Course_can : Meth K (He.ga K "Course") "can" (He.ma K (He.ga K "Course") "can")
  m_Course_mask : Meth K (He.ga K "Course") "mask" (He.ma K (He.ga K "Course") "mask")
  m_Course_do : Meth K (He.ga K "Course") "do" (He.ma K (He.ga K "Course") "do")
  m_Course_whole : Meth K (He.ga K "Course") "whole" (He.ma K (He.ga K "Course") "whole")
  f_is_ascending : ∃ fd, FunD K d_is_ascending.name d_is_ascending.qual d_is_ascending.params d_is_ascending.body d_is_ascending.scope [] [] (He.fAd K d_is_ascending.at_) fd
  f_is_message : ∃ fd, FunD K d_is_message.name d_is_message.qual d_is_message.params d_is_message.body d_is_message.scope [] [] (He.fAd K d_is_message.at_) fd
  f_is_link : ∃ fd, FunD K d_is_link.name d_is_link.qual d_is_link.params d_is_link.body d_is_link.scope [] [] (He.fAd K d_is_link.at_) fd
  f_check_nodes : ∃ fd, FunD K d_check_nodes.name d_check_nodes.qual d_check_nodes.params d_check_nodes.body d_check_nodes.scope [] [] (He.fAd K d_check_nodes.at_) fd
  f_check_links : ∃ fd, FunD K d_check_links.name d_check_links.qual d_check_links.params d_check_links.body d_check_links.scope [] [] (He.fAd K d_check_links.at_) fd
  f_Network_init : ∃ fd, FunD K d_Network_init.name d_Network_init.qual d_Network_init.params d_Network_init.body d_Network_init.scope [] [] (He.fAd K d_Network_init.at_) fd
  f_Network_node_letters : ∃ fd, FunD K d_Network_node_letters.name d_Network_node_letters.qual d_Network_node_letters.params d_Network_node_letters.body d_Network_node_letters.scope [] [] (He.fAd K d_Network_node_letters.at_) fd
  f_node_number : ∃ fd, FunD K d_node_number.name d_node_number.qual d_node_number.params d_node_number.body d_node_number.scope [] [] (He.fAd K d_node_number.at_) fd
  f_mask_of : ∃ fd, FunD K d_mask_of.name d_mask_of.qual d_mask_of.params d_mask_of.body d_mask_of.scope [] [] (He.fAd K d_mask_of.at_) fd
  f_text_of : ∃ fd, FunD K d_text_of.name d_text_of.qual d_text_of.params d_text_of.body d_text_of.scope [] [] (He.fAd K d_text_of.at_) fd
  f_Span_init : ∃ fd, FunD K d_Span_init.name d_Span_init.qual d_Span_init.params d_Span_init.body d_Span_init.scope [.ref (He.dflAt ("Span", some "__init__") 0 K)] [] (He.fAd K d_Span_init.at_) fd
  f_Span_rank : ∃ fd, FunD K d_Span_rank.name d_Span_rank.qual d_Span_rank.params d_Span_rank.body d_Span_rank.scope [] [] (He.fAd K d_Span_rank.at_) fd
  f_Span_left : ∃ fd, FunD K d_Span_left.name d_Span_left.qual d_Span_left.params d_Span_left.body d_Span_left.scope [] [] (He.fAd K d_Span_left.at_) fd
  f_Span_has : ∃ fd, FunD K d_Span_has.name d_Span_has.qual d_Span_has.params d_Span_has.body d_Span_has.scope [] [] (He.fAd K d_Span_has.at_) fd
  f_Span_add : ∃ fd, FunD K d_Span_add.name d_Span_add.qual d_Span_add.params d_Span_add.body d_Span_add.scope [] [] (He.fAd K d_Span_add.at_) fd
  f_basis : ∃ fd, FunD K d_basis.name d_basis.qual d_basis.params d_basis.body d_basis.scope [] [] (He.fAd K d_basis.at_) fd
  f_Course_init : ∃ fd, FunD K d_Course_init.name d_Course_init.qual d_Course_init.params d_Course_init.body d_Course_init.scope [] [] (He.fAd K d_Course_init.at_) fd
  f_Course_ends : ∃ fd, FunD K d_Course_ends.name d_Course_ends.qual d_Course_ends.params d_Course_ends.body d_Course_ends.scope [] [] (He.fAd K d_Course_ends.at_) fd
  f_Course_can : ∃ fd, FunD K d_Course_can.name d_Course_can.qual d_Course_can.params d_Course_can.body d_Course_can.scope [] [] (He.fAd K d_Course_can.at_) fd
  f_Course_mask : ∃ fd, FunD K d_Course_mask.name d_Course_mask.qual d_Course_mask.params d_Course_mask.body d_Course_mask.scope [] [] (He.fAd K d_Course_mask.at_) fd
  f_Course_do : ∃ fd, FunD K d_Course_do.name d_Course_do.qual d_Course_do.params d_Course_do.body d_Course_do.scope [] [] (He.fAd K d_Course_do.at_) fd
  f_Course_whole : ∃ fd, FunD K d_Course_whole.name d_Course_whole.qual d_Course_whole.params d_Course_whole.body d_Course_whole.scope [] [] (He.fAd K d_Course_whole.at_) fd
  f_fault : ∃ fd, FunD K d_fault.name d_fault.qual d_fault.params d_fault.body d_fault.scope [] [] (He.fAd K d_fault.at_) fd
  f_done : ∃ fd, FunD K d_done.name d_done.qual d_done.params d_done.body d_done.scope [] [] (He.fAd K d_done.at_) fd
  f_ranks : ∃ fd, FunD K d_ranks.name d_ranks.qual d_ranks.params d_ranks.body d_ranks.scope [] [] (He.fAd K d_ranks.at_) fd
  f_informed : ∃ fd, FunD K d_informed.name d_informed.qual d_informed.params d_informed.body d_informed.scope [] [] (He.fAd K d_informed.at_) fd
  f_known : ∃ fd, FunD K d_known.name d_known.qual d_known.params d_known.body d_known.scope [] [] (He.fAd K d_known.at_) fd
  f_idle_steps : ∃ fd, FunD K d_idle_steps.name d_idle_steps.qual d_idle_steps.params d_idle_steps.body d_idle_steps.scope [] [] (He.fAd K d_idle_steps.at_) fd
  f_can_swap : ∃ fd, FunD K d_can_swap.name d_can_swap.qual d_can_swap.params d_can_swap.body d_can_swap.scope [] [] (He.fAd K d_can_swap.at_) fd
  f__law_pool : ∃ fd, FunD K d__law_pool.name d__law_pool.qual d__law_pool.params d__law_pool.body d__law_pool.scope [] [] (He.fAd K d__law_pool.at_) fd
  f__law_take : ∃ fd, FunD K d__law_take.name d__law_take.qual d__law_take.params d__law_take.body d__law_take.scope [] [] (He.fAd K d__law_take.at_) fd
  f__law_is_integer : ∃ fd, FunD K d__law_is_integer.name d__law_is_integer.qual d__law_is_integer.params d__law_is_integer.body d__law_is_integer.scope [] [] (He.fAd K d__law_is_integer.at_) fd
  f__law_same : ∃ fd, FunD K d__law_same.name d__law_same.qual d__law_same.params d__law_same.body d__law_same.scope [] [] (He.fAd K d__law_same.at_) fd
  f__law_pick : ∃ fd, FunD K d__law_pick.name d__law_pick.qual d__law_pick.params d__law_pick.body d__law_pick.scope [] [] (He.fAd K d__law_pick.at_) fd
  f__law_parity : ∃ fd, FunD K d__law_parity.name d__law_parity.qual d__law_parity.params d__law_parity.body d__law_parity.scope [] [] (He.fAd K d__law_parity.at_) fd
  f__law_message : ∃ fd, FunD K d__law_message.name d__law_message.qual d__law_message.params d__law_message.body d__law_message.scope [] [] (He.fAd K d__law_message.at_) fd
  f__law_sum : ∃ fd, FunD K d__law_sum.name d__law_sum.qual d__law_sum.params d__law_sum.body d__law_sum.scope [] [] (He.fAd K d__law_sum.at_) fd
  f__law_derived : ∃ fd, FunD K d__law_derived.name d__law_derived.qual d__law_derived.params d__law_derived.body d__law_derived.scope [] [] (He.fAd K d__law_derived.at_) fd
  f__law_rank : ∃ fd, FunD K d__law_rank.name d__law_rank.qual d__law_rank.params d__law_rank.body d__law_rank.scope [] [] (He.fAd K d__law_rank.at_) fd
  f__law_some_messages : ∃ fd, FunD K d__law_some_messages.name d__law_some_messages.qual d__law_some_messages.params d__law_some_messages.body d__law_some_messages.scope [] [] (He.fAd K d__law_some_messages.at_) fd
  f__law_drawn : ∃ fd, FunD K d__law_drawn.name d__law_drawn.qual d__law_drawn.params d__law_drawn.body d__law_drawn.scope [] [] (He.fAd K d__law_drawn.at_) fd
  f__law_filled : ∃ fd, FunD K d__law_filled.name d__law_filled.qual d__law_filled.params d__law_filled.body d__law_filled.scope [] [] (He.fAd K d__law_filled.at_) fd
  f__law_network : ∃ fd, FunD K d__law_network.name d__law_network.qual d__law_network.params d__law_network.body d__law_network.scope [] [] (He.fAd K d__law_network.at_) fd
  f__law_shaped : ∃ fd, FunD K d__law_shaped.name d__law_shaped.qual d__law_shaped.params d__law_shaped.body d__law_shaped.scope [] [] (He.fAd K d__law_shaped.at_) fd
  f__law_handed : ∃ fd, FunD K d__law_handed.name d__law_handed.qual d__law_handed.params d__law_handed.body d__law_handed.scope [] [] (He.fAd K d__law_handed.at_) fd
  f__law_sets : ∃ fd, FunD K d__law_sets.name d__law_sets.qual d__law_sets.params d__law_sets.body d__law_sets.scope [] [] (He.fAd K d__law_sets.at_) fd
  f__law_messages_of : ∃ fd, FunD K d__law_messages_of.name d__law_messages_of.qual d__law_messages_of.params d__law_messages_of.body d__law_messages_of.scope [] [] (He.fAd K d__law_messages_of.at_) fd
  f__law_demand : ∃ fd, FunD K d__law_demand.name d__law_demand.qual d__law_demand.params d__law_demand.body d__law_demand.scope [] [] (He.fAd K d__law_demand.at_) fd
  f__law_entering : ∃ fd, FunD K d__law_entering.name d__law_entering.qual d__law_entering.params d__law_entering.body d__law_entering.scope [] [] (He.fAd K d__law_entering.at_) fd
  f__law_deficient : ∃ fd, FunD K d__law_deficient.name d__law_deficient.qual d__law_deficient.params d__law_deficient.body d__law_deficient.scope [] [] (He.fAd K d__law_deficient.at_) fd
  f__law_begin : ∃ fd, FunD K d__law_begin.name d__law_begin.qual d__law_begin.params d__law_begin.body d__law_begin.scope [] [] (He.fAd K d__law_begin.at_) fd
  f__law_possible : ∃ fd, FunD K d__law_possible.name d__law_possible.qual d__law_possible.params d__law_possible.body d__law_possible.scope [] [] (He.fAd K d__law_possible.at_) fd
  f__law_sent : ∃ fd, FunD K d__law_sent.name d__law_sent.qual d__law_sent.params d__law_sent.body d__law_sent.scope [] [] (He.fAd K d__law_sent.at_) fd
  f__law_is_complete : ∃ fd, FunD K d__law_is_complete.name d__law_is_complete.qual d__law_is_complete.params d__law_is_complete.body d__law_is_complete.scope [] [] (He.fAd K d__law_is_complete.at_) fd
  f__law_some_sent : ∃ fd, FunD K d__law_some_sent.name d__law_some_sent.qual d__law_some_sent.params d__law_some_sent.body d__law_some_sent.scope [] [] (He.fAd K d__law_some_sent.at_) fd
  f__law_run : ∃ fd, FunD K d__law_run.name d__law_run.qual d__law_run.params d__law_run.body d__law_run.scope [] [] (He.fAd K d__law_run.at_) fd
  f__law_is_bounded : ∃ fd, FunD K d__law_is_bounded.name d__law_is_bounded.qual d__law_is_bounded.params d__law_is_bounded.body d__law_is_bounded.scope [] [] (He.fAd K d__law_is_bounded.at_) fd
  f_law : ∃ fd, FunD K d_law.name d_law.qual d_law.params d_law.body d_law.scope [] [] (He.fAd K d_law.at_) fd
  emp : ∀ H : Hp, SqT K H (He.dflAt ("Span", some "__init__") 0 K) []
theorem TW.mk' {K : PySem.W.Frag} {mg : Str → Option Value} {h : Heap} (X : K.In h) (G : h.Ns mainGlobals mg) (c : He.SaysD fa fn K) (e : ∀ H : Hp, SqT K H (He.dflAt ("Span", some "__init__") 0 K) []) : TW K mg :=
  { g_is_ascending := He.glo_ok X G (c.fact 0 rfl),
    g_is_message := He.glo_ok X G (c.fact 1 rfl),
    g_is_link := He.glo_ok X G (c.fact 2 rfl),
    g_check_nodes := He.glo_ok X G (c.fact 3 rfl),
    g_check_links := He.glo_ok X G (c.fact 4 rfl),
    g_node_number := He.glo_ok X G (c.fact 5 rfl),
    g_mask_of := He.glo_ok X G (c.fact 6 rfl),
    g_text_of := He.glo_ok X G (c.fact 7 rfl),
    g_basis := He.glo_ok X G (c.fact 8 rfl),
    g_fault := He.glo_ok X G (c.fact 9 rfl),
    g_done := He.glo_ok X G (c.fact 10 rfl),
    g_ranks := He.glo_ok X G (c.fact 11 rfl),
    g_informed := He.glo_ok X G (c.fact 12 rfl),
    g_known := He.glo_ok X G (c.fact 13 rfl),
    g_idle_steps := He.glo_ok X G (c.fact 14 rfl),
    g_can_swap := He.glo_ok X G (c.fact 15 rfl),
    g__law_pool := He.glo_ok X G (c.fact 16 rfl),
    g__law_take := He.glo_ok X G (c.fact 17 rfl),
    g__law_is_integer := He.glo_ok X G (c.fact 18 rfl),
    g__law_same := He.glo_ok X G (c.fact 19 rfl),
    g__law_pick := He.glo_ok X G (c.fact 20 rfl),
    g__law_parity := He.glo_ok X G (c.fact 21 rfl),
    g__law_message := He.glo_ok X G (c.fact 22 rfl),
    g__law_sum := He.glo_ok X G (c.fact 23 rfl),
    g__law_derived := He.glo_ok X G (c.fact 24 rfl),
    g__law_rank := He.glo_ok X G (c.fact 25 rfl),
    g__law_some_messages := He.glo_ok X G (c.fact 26 rfl),
    g__law_drawn := He.glo_ok X G (c.fact 27 rfl),
    g__law_filled := He.glo_ok X G (c.fact 28 rfl),
    g__law_network := He.glo_ok X G (c.fact 29 rfl),
    g__law_shaped := He.glo_ok X G (c.fact 30 rfl),
    g__law_handed := He.glo_ok X G (c.fact 31 rfl),
    g__law_sets := He.glo_ok X G (c.fact 32 rfl),
    g__law_messages_of := He.glo_ok X G (c.fact 33 rfl),
    g__law_demand := He.glo_ok X G (c.fact 34 rfl),
    g__law_entering := He.glo_ok X G (c.fact 35 rfl),
    g__law_deficient := He.glo_ok X G (c.fact 36 rfl),
    g__law_begin := He.glo_ok X G (c.fact 37 rfl),
    g__law_possible := He.glo_ok X G (c.fact 38 rfl),
    g__law_sent := He.glo_ok X G (c.fact 39 rfl),
    g__law_is_complete := He.glo_ok X G (c.fact 40 rfl),
    g__law_some_sent := He.glo_ok X G (c.fact 41 rfl),
    g__law_run := He.glo_ok X G (c.fact 42 rfl),
    g__law_is_bounded := He.glo_ok X G (c.fact 43 rfl),
    g_law := He.glo_ok X G (c.fact 44 rfl),
    g_Network := He.glo_ok X G (c.fact 45 rfl),
    g_Span := He.glo_ok X G (c.fact 46 rfl),
    g_Course := He.glo_ok X G (c.fact 47 rfl),
    g_BadParity := He.glo_ok X G (c.fact 48 rfl),
    z_len := He.free_ok X G (c.fact 49 rfl),
    z_range := He.free_ok X G (c.fact 50 rfl),
    z_int := He.free_ok X G (c.fact 51 rfl),
    z_list := He.free_ok X G (c.fact 52 rfl),
    z_tuple := He.free_ok X G (c.fact 53 rfl),
    z_sorted := He.free_ok X G (c.fact 54 rfl),
    z_min := He.free_ok X G (c.fact 55 rfl),
    z_all := He.free_ok X G (c.fact 56 rfl),
    z_isinstance := He.free_ok X G (c.fact 57 rfl),
    z_enumerate := He.free_ok X G (c.fact 58 rfl),
    z_zip := He.free_ok X G (c.fact 59 rfl),
    z_bool := He.free_ok X G (c.fact 60 rfl),
    z_str := He.free_ok X G (c.fact 61 rfl),
    v_VARIABLE_LETTERS := He.str_ok X G (c.fact 62 rfl),
    v_NODE_LETTERS := He.str_ok X G (c.fact 63 rfl),
    v_LETTERS := He.str_ok X G (c.fact 64 rfl),
    v_MOST_MESSAGES := He.int_ok X G (c.fact 65 rfl),
    v_MOST_LINKS := He.int_ok X G (c.fact 66 rfl),
    cls_Network := He.cls_ok (c.fact 67 rfl),
    mk_Network := He.mkr_ok (c.fact 68 rfl),
    n_Network_variables := He.noat_ok (c.fact 69 rfl),
    n_Network_nodes := He.noat_ok (c.fact 70 rfl),
    n_Network_links := He.noat_ok (c.fact 71 rfl),
    cls_Span := He.cls_ok (c.fact 72 rfl),
    mk_Span := He.mkr_ok (c.fact 73 rfl),
    n_Span_rows := He.noat_ok (c.fact 74 rfl),
    cls_Course := He.cls_ok (c.fact 75 rfl),
    mk_Course := He.mkr_ok (c.fact 76 rfl),
    n_Course_network := He.noat_ok (c.fact 77 rfl),
    n_Course_has := He.noat_ok (c.fact 78 rfl),
    n_Course_spans := He.noat_ok (c.fact 79 rfl),
    n_Course_used := He.noat_ok (c.fact 80 rfl),
    m_Network_node_letters := He.meth_ok (c.fact 81 rfl),
    m_Span_rank := He.meth_ok (c.fact 82 rfl),
    m_Span_left := He.meth_ok (c.fact 83 rfl),
    m_Span_has := He.meth_ok (c.fact 84 rfl),
    m_Span_add := He.meth_ok (c.fact 85 rfl),
    m_Course_ends := He.meth_ok (c.fact 86 rfl),
    m_Course_can := He.meth_ok (c.fact 87 rfl),
    m_Course_mask := He.meth_ok (c.fact 88 rfl),
    m_Course_do := He.meth_ok (c.fact 89 rfl),
    m_Course_whole := He.meth_ok (c.fact 90 rfl),
    f_is_ascending := c.def_ 0 (d := d_is_ascending) rfl,
    f_is_message := c.def_ 1 (d := d_is_message) rfl,
    f_is_link := c.def_ 2 (d := d_is_link) rfl,
    f_check_nodes := c.def_ 3 (d := d_check_nodes) rfl,
    f_check_links := c.def_ 4 (d := d_check_links) rfl,
    f_Network_init := c.def_ 5 (d := d_Network_init) rfl,
    f_Network_node_letters := c.def_ 6 (d := d_Network_node_letters) rfl,
    f_node_number := c.def_ 7 (d := d_node_number) rfl,
    f_mask_of := c.def_ 8 (d := d_mask_of) rfl,
    f_text_of := c.def_ 9 (d := d_text_of) rfl,
    f_Span_init := c.def_ 10 (d := d_Span_init) rfl,
    f_Span_rank := c.def_ 11 (d := d_Span_rank) rfl,
    f_Span_left := c.def_ 12 (d := d_Span_left) rfl,
    f_Span_has := c.def_ 13 (d := d_Span_has) rfl,
    f_Span_add := c.def_ 14 (d := d_Span_add) rfl,
    f_basis := c.def_ 15 (d := d_basis) rfl,
    f_Course_init := c.def_ 16 (d := d_Course_init) rfl,
    f_Course_ends := c.def_ 17 (d := d_Course_ends) rfl,
    f_Course_can := c.def_ 18 (d := d_Course_can) rfl,
    f_Course_mask := c.def_ 19 (d := d_Course_mask) rfl,
    f_Course_do := c.def_ 20 (d := d_Course_do) rfl,
    f_Course_whole := c.def_ 21 (d := d_Course_whole) rfl,
    f_fault := c.def_ 22 (d := d_fault) rfl,
    f_done := c.def_ 23 (d := d_done) rfl,
    f_ranks := c.def_ 24 (d := d_ranks) rfl,
    f_informed := c.def_ 25 (d := d_informed) rfl,
    f_known := c.def_ 26 (d := d_known) rfl,
    f_idle_steps := c.def_ 27 (d := d_idle_steps) rfl,
    f_can_swap := c.def_ 28 (d := d_can_swap) rfl,
    f__law_pool := c.def_ 29 (d := d__law_pool) rfl,
    f__law_take := c.def_ 30 (d := d__law_take) rfl,
    f__law_is_integer := c.def_ 31 (d := d__law_is_integer) rfl,
    f__law_same := c.def_ 32 (d := d__law_same) rfl,
    f__law_pick := c.def_ 33 (d := d__law_pick) rfl,
    f__law_parity := c.def_ 34 (d := d__law_parity) rfl,
    f__law_message := c.def_ 35 (d := d__law_message) rfl,
    f__law_sum := c.def_ 36 (d := d__law_sum) rfl,
    f__law_derived := c.def_ 37 (d := d__law_derived) rfl,
    f__law_rank := c.def_ 38 (d := d__law_rank) rfl,
    f__law_some_messages := c.def_ 39 (d := d__law_some_messages) rfl,
    f__law_drawn := c.def_ 40 (d := d__law_drawn) rfl,
    f__law_filled := c.def_ 41 (d := d__law_filled) rfl,
    f__law_network := c.def_ 42 (d := d__law_network) rfl,
    f__law_shaped := c.def_ 43 (d := d__law_shaped) rfl,
    f__law_handed := c.def_ 44 (d := d__law_handed) rfl,
    f__law_sets := c.def_ 45 (d := d__law_sets) rfl,
    f__law_messages_of := c.def_ 46 (d := d__law_messages_of) rfl,
    f__law_demand := c.def_ 47 (d := d__law_demand) rfl,
    f__law_entering := c.def_ 48 (d := d__law_entering) rfl,
    f__law_deficient := c.def_ 49 (d := d__law_deficient) rfl,
    f__law_begin := c.def_ 50 (d := d__law_begin) rfl,
    f__law_possible := c.def_ 51 (d := d__law_possible) rfl,
    f__law_sent := c.def_ 52 (d := d__law_sent) rfl,
    f__law_is_complete := c.def_ 53 (d := d__law_is_complete) rfl,
    f__law_some_sent := c.def_ 54 (d := d__law_some_sent) rfl,
    f__law_run := c.def_ 55 (d := d__law_run) rfl,
    f__law_is_bounded := c.def_ 56 (d := d__law_is_bounded) rfl,
    f_law := c.def_ 57 (d := d_law) rfl,
    emp := e }
end Kn
set_option Elab.async false
set_option linter.all false
set_option maxRecDepth 100000
set_option maxHeartbeats 0
namespace Kn
open PySem PySem.Spec PyProof.Rows L2
/-! ### the head's run -/
def emptyT (K : PySem.W.Frag) (a : Addr) : Bool := match K.lookup a with
  | some ⟨.type c, _, .seq its _, _⟩ => decide (c = "tuple") && its.toList.isEmpty
  | _ => false
theorem emptyT_ok {K : PySem.W.Frag} {a : Addr} (h : emptyT K a = true) (H : Hp) : SqT K H a [] := by
  unfold emptyT at h
  cases q : K.lookup a with
  | none => rw [q] at h; cases h
  | some o =>
    obtain ⟨oc, od, dt, osl⟩ := o
    rw [q] at h
    cases oc with
    | type c =>
      cases dt with
      | seq its n =>
        obtain ⟨h1, h2⟩ := He.ba (show (decide (c = "tuple") && its.toList.isEmpty) = true from h)
        have e : its.toList = [] := List.isEmpty_iff.mp h2
        refine .inr ⟨_, its, n, q, congrArg Value.type (of_decide_eq_true h1), rfl, ?_, ?_⟩
        · have z : its.size = its.toList.length := Array.length_toList.symm
          rw [z, e]
          exact Nat.zero_le _
        · rw [e]
          exact .nil
      | _ => cases h
    | _ => cases dt <;> cases h
abbrev AlK : Type := Bool × He.AlD
def obsK (K : PySem.W.Frag) : AlK := (emptyT K (He.dflAt ("Span", some "__init__") 0 K), He.obsD fa fn K)
def valK : AlK := (true, He.valD fn)
def hk : PySem.W.Hook where
  α := AlK
  obs := fun s => obsK (He.frG s.heap.get? (He.asD s.heap.get? 6))
  val := fun _ => valK
  says := fun _ h => ∃ K : PySem.W.Frag, K.In h ∧ obsK K = valK
  of := fun _ _ e => ⟨_, He.frG_in, e⟩
  keeps := fun _ _ _ ⟨K, hK, c⟩ k => ⟨K, PySem.W.Frag.In.keeps hK k, c⟩
abbrev R : PySem.W.OpenRow := PySem.W.OpenLaw.row PySem.Challenge.rw_allknow_k10_whole_steps
def ob (s : PySem.W.SharedT) : AlK := obsK (He.frG (HandSHeadRun.getT s) (He.asD (HandSHeadRun.getT s) 6))
theorem ob_eq (s : PySem.W.SharedT) : ob s = hk.obs s.abs := by
  have e : HandSHeadRun.getT s = s.abs.heap.get? := funext (HandSHeadRun.getT_eq s)
  unfold ob
  rw [e] <;> rfl
theorem run (w : World) : HandSHeadRun.RunEq R (PySem.W.view R.prog [lawIx]) hk ob 6000 lo w := by
  intro os
  kernel_rfl
end Kn
set_option Elab.async false
set_option linter.all false
set_option maxRecDepth 100000
set_option maxHeartbeats 4000000
namespace Kn
open PySem PySem.Spec PyProof.Rows L2
/-! ### rules of our own -/
section
variable {X : Cx}
theorem pe_gstr {x z : Str} {pos : Pos} (hg : Gl X x) (hm : ∃ t, X.mg x = some (.str z t)) (hd : (x == ("__debug__" : Str)) = false := by decide) : PE X (.Name x pos) (tC (.str z)) := by
  obtain ⟨t, e⟩ := hm
  exact pe_glob hg e ⟨t, rfl⟩ hd
theorem pe_gint {x : Str} {i : Int} {pos : Pos} (hg : Gl X x) (hm : ∃ t, X.mg x = some (.int i t)) (hd : (x == ("__debug__" : Str)) = false := by decide) : PE X (.Name x pos) (tC (.int i)) := by
  obtain ⟨t, e⟩ := hm
  exact pe_glob hg e ⟨t, rfl⟩ hd
end
/-- a def of the text that keeps its promise, called by its name | a method | a class that is made -/
def Cal (P : Program) (w : World) (K : PySem.W.Frag) (mg : Str → Option Value) (base : Heap) (k : Nat) (x : Str) (ps : List Str) (sp : Sp) : Prop :=
  ∃ f fd, mg x = some (.ref f) ∧ PySem.W.keepIn K (.ref f) = true ∧ Binds K fd ps [] ∧ FnOk P w K mg base CX0 k f fd ps sp
def MCal (P : Program) (w : World) (K : PySem.W.Frag) (mg : Str → Option Value) (base : Heap) (k : Nat) (C : Addr) (m : Str) (ps : List Str) (sp : Sp) : Prop :=
  ∃ f fd, Meth K C m f ∧ Binds K fd ps [] ∧ FnOk P w K mg base CX0 k f fd ps sp
def NCal (P : Program) (w : World) (K : PySem.W.Frag) (mg : Str → Option Value) (base : Heap) (k : Nat) (x : Str) (C : Addr) (ps : List Str) (dvs : List V) (sp : Sp) : Prop :=
  ∃ f fd ds, mg x = some (.ref C) ∧ Mk K C f ∧ Binds K fd ps ds ∧ Vals dvs ds ∧ FnOk P w K mg base CX0 k f fd ps sp
section
variable {X : Cx} {k : Nat} {x m : Str} {C : Addr} {ps : List Str} {dvs : List V} {sp : Sp} {e o : Expr} {es : List Expr} {ta : TE} {t : TA} {p pos apos : Pos}
theorem pe_cal (c : Cal X.prog X.w X.K X.mg X.base k x ps sp) (hr : Room k X.A) (ha : PA X (e :: es) t) (hg : Gl X x := by rfl) (hdb : (x == ("__debug__" : Str)) = false := by decide)
    (he : starEach (e :: es) X.env = (false, eval e X.env) :: starEach es X.env := by rfl) (hpl : (backTo pos (starEach es X.env)).any (·.1) = false := by rfl) : PE X (.Call (.Name x p) (e :: es) [] pos) (tCall sp [] E0 t) := by
  obtain ⟨f, fd, h1, h2, h3, h4⟩ := c
  exact pe_call h4 hr hg h1 h2 h3 .nil pass0 ha hdb he hpl
theorem pe_mcal {pl : Sem Bool} (he : PE X o ta) (c : Cls X.K C) (mc : MCal X.prog X.w X.K X.mg X.base k C m ps sp) (hr : Room k X.A) (ha : PA X (e :: es) t)
    (hst : starEach (e :: es) X.env = (false, eval e X.env) :: starEach es X.env := by rfl) (hpl : (backTo pos (starEach es X.env)).any (·.1) = false := by rfl)
    (ht : eval (.Call (.Attribute o m apos) (e :: es) [] pos) X.env = (do
      let ov ← eval o X.env
      standAt apos.atName
      let (f, first) ← holding [ov] (getMethod ov m pl)
      callWith pos f first (backTo pos (starEach (e :: es) X.env)) (backToKw pos (keywordEach [] X.env))) := by rfl) :
    PE X (.Call (.Attribute o m apos) (e :: es) [] pos) (tMeth C m sp [] E0 ta t) := by
  obtain ⟨f, fd, h1, h2, h3⟩ := mc
  exact pe_meth he c h1 h3 hr h2 .nil pass0 ha hst hpl ht
theorem pe_mcal0 {pl : Sem Bool} (he : PE X o ta) (c : Cls X.K C) (mc : MCal X.prog X.w X.K X.mg X.base k C m ps sp) (hr : Room k X.A)
    (ht : eval (.Call (.Attribute o m apos) [] [] pos) X.env = (do
      let ov ← eval o X.env
      standAt apos.atName
      let (f, first) ← holding [ov] (getMethod ov m pl)
      callWith pos f first (backTo pos (starEach [] X.env)) (backToKw pos (keywordEach [] X.env))) := by rfl) :
    PE X (.Call (.Attribute o m apos) [] [] pos) (tMeth C m sp [] E0 ta tNil) := by
  obtain ⟨f, fd, h1, h2, h3⟩ := mc
  exact pe_meth0 he c h1 h3 hr h2 .nil pass0 ht
theorem pe_mk (c : NCal X.prog X.w X.K X.mg X.base k x C ps dvs sp) (hr : Room (k + 1) X.A) (ha : PA X (e :: es) t) (hg : Gl X x := by rfl) (hdb : (x == ("__debug__" : Str)) = false := by decide)
    (he : starEach (e :: es) X.env = (false, eval e X.env) :: starEach es X.env := by rfl) (hpl : (backTo pos (starEach es X.env)).any (·.1) = false := by rfl) : PE X (.Call (.Name x p) (e :: es) [] pos) (tMake C sp dvs E0 t) := by
  obtain ⟨f, fd, ds, h1, h2, h3, h4, h5⟩ := c
  exact pe_make h2 h5 hr hg h1 h3 h4 pass0 ha hdb he hpl
theorem pe_mk0 (c : NCal X.prog X.w X.K X.mg X.base k x C ps dvs sp) (hr : Room (k + 1) X.A) (hg : Gl X x := by rfl) (hdb : (x == ("__debug__" : Str)) = false := by decide) : PE X (.Call (.Name x p) [] [] pos) (tMake C sp dvs E0 tNil) := by
  obtain ⟨f, fd, ds, h1, h2, h3, h4, h5⟩ := c
  exact pe_make0 h2 h5 hr hg h1 h3 h4 pass0 hdb
end
/-! ### a list or a tuple -/
def sq (b : Bool) (xs : List V) : HO := if b then .tup xs else .lst xs
theorem sq_seq {K : PySem.W.Frag} {H : Hp} {a : Addr} {b : Bool} {xs : List V} (h : H a = some (sq b xs)) : SqL K H a xs ∨ SqT K H a xs := by
  cases b with
  | false => exact .inl (SqL.of h)
  | true => exact .inr (SqT.of h)
/-- what is walked goes n turns, as Y tells, while G stands -/
def Walks (n : Nat) (G : Hp → Prop) (Y : Nat → Hp → V → Hp → Prop) (R : It → Hp → Prop) (H : Hp) : Prop := ∀ J : It, Walk J n G Y → R J H
def iSq (tl : TE) : TI := fun σ H R => tl σ H fun x H1 => ∃ a b xs, x = .ref a ∧ H1 a = some (sq b xs) ∧ Walks xs.length (fun H => H a = some (sq b xs)) (YAt xs) R H1
theorem walk_sqL {K : PySem.W.Frag} {a : Addr} {xs : List V} : Walk (Itl K a) xs.length (fun H => H a = some (sq false xs)) (YAt xs) := walk_list.mono (fun _ h => SqL.of h) fun _ _ _ _ _ _ y => y
theorem walk_sqT {K : PySem.W.Frag} {a : Addr} {xs : List V} : Walk (Itt K a) xs.length (fun H => H a = some (sq true xs)) (YAt xs) := walk_tup.mono (fun _ h => SqT.of h) fun _ _ _ _ _ _ y => y
/-- a rule by its reading: a stronger reading serves too -/
theorem PI.of {X : Cx} {tg e : Expr} {t u : TI} (h : PI X tg e t) (k : ∀ σ H R, u σ H R → t σ H R) : PI X tg e u := ⟨fun pins s σ H R I q => h.run pins s σ H R I (k σ H R q)⟩
theorem pi_seq {X : Cx} {tg l : Expr} {tl : TE} (hl : PE X l tl) : PI X tg l (iSq tl) := by
  refine ⟨fun pins s σ H R I h => ?_⟩
  refine thn (hl.run pins s σ H _ I h) fun v s1 ⟨x, H1, I1, r1, q1⟩ => ?_
  obtain ⟨a, b, xs, e, hq, q⟩ := q1
  subst e
  cases r1
  cases b with
  | false =>
    obtain ⟨its, rv, p, hz⟩ := I1.list (SqL.of hq)
    refine wpAny_pyIter_list p.isList ?_
    refine ⟨s1.heap.objs.size, [s1.heap.objs.size], _, _, H1, rfl, I1.kept (t' := s1.toks) fun b o e => Heap.get?_push_of_some _ e, turn_list a _, ⟨_, Heap.get?_push_size _ rfl, rfl, rfl⟩, fun b hb => ?_, q _ walk_sqL⟩
    have e : b = s1.heap.objs.size := by simpa using hb
    subst e
    exact I1.fpOk (Nat.le_refl _) (I1.hok.fresh (Nat.le_refl _))
  | true =>
    obtain ⟨its, rv, p, hz⟩ := I1.tuple (SqT.of hq)
    refine wpAny_pyIter_tuple (show s1.heap.IsTuple a its.toArray from p) ?_
    refine ⟨s1.heap.objs.size, [s1.heap.objs.size], _, _, H1, rfl, I1.kept (t' := s1.toks) fun b o e => Heap.get?_push_of_some _ e, turn_tuple a _, ⟨_, Heap.get?_push_size _ rfl, rfl, rfl⟩, fun b hb => ?_, q _ walk_sqT⟩
    have e : b = s1.heap.objs.size := by simpa using hb
    subst e
    exact I1.fpOk (Nat.le_refl _) (I1.hok.fresh (Nat.le_refl _))
end Kn
set_option Elab.async false
set_option linter.all false
set_option maxRecDepth 100000
set_option maxHeartbeats 4000000
namespace PySem
open Sem (wp)
open AutoSeq1
set_option maxHeartbeats 1000000 in
theorem kn_meets_enumerate_new {v : Value} {o : Obj} {H : Heap → Prop} (B : Begins v o H) :
    Meets (Builtin.«enumerate.__new__» ⟨[.type "enumerate", v], []⟩) (fun _ R s => H s.heap ∧
      R (.ok (.ret (.ref (s.heap.push o).objs.size))) { s with heap := (s.heap.push o).push { cls := .type "enumerate", data := .fields #[.none, .bool false, .ref s.heap.objs.size, rawInt 0, .none, .none] } }) :=
  .of_wp fun prog w A R s h => by
    obtain ⟨hp, g, d, tk, os⟩ := s; obtain ⟨h1, h⟩ := h
    have hsub := sub_enumerate
    have q1 : ∀ {A' : Around} {E : Value → Shared → Prop} {Q : Value → Shared → Prop}, Q (.ref hp.objs.size) ⟨hp.push o, g, d, tk, os⟩ → wpAny (model prog w) A' (pyIter v) Q E ⟨hp, g, d, tk, os⟩ :=
      fun q => B.iter prog w _ _ ⟨hp, g, d, tk, os⟩ _ h1 q
    wp_walk using q1
    refine wpAny_stack_any fun st => wpAny_pure ?_
    split
    · rename_i c _ _ _ _ _
      cases (c == Value.type "enumerate")
      · wp_walk using q1
        exact ⟨_, rfl, h⟩
      · wp_walk using q1
        exact ⟨_, rfl, h⟩
    · wp_walk using q1
      exact ⟨_, rfl, h⟩
section
variable {prog : Program} {w : World} {A : Around} {E : Value → Shared → Prop} {s : Shared}
theorem kn_call_enumerate {v : Value} {o : Obj} {H : Heap → Prop} {Q : Value → Shared → Prop} (B : Begins v o H) (h1 : H s.heap)
    (h : ∀ h', IsEnum h' (s.heap.objs.size + 1) s.heap.objs.size 0 .none → h'.get? s.heap.objs.size = some o → h'.objs.size = s.heap.objs.size + 2 →
      (∀ b o, s.heap.get? b = some o → h'.get? b = some o) → Q (.ref (s.heap.objs.size + 1)) { s with heap := h' }) :
    wpAny (model prog w) A (call (.type "enumerate") [v]) Q E s := by
  refine callType_new F.called_enumerate (by decide) (F.typeCall_enumerate_1 _) (F.newCall_enumerate_1 _) (fun obj => F.args_object_init_2 obj _) F.entry_enumerate_new
    (kn_meets_enumerate_new B) ⟨h1, ?_⟩
  have hz : (s.heap.push o).objs.size = s.heap.objs.size + 1 := Heap.size_push ..
  show _ ∧ _
  rw [hz]
  have he : IsEnum ((s.heap.push o).push { cls := .type "enumerate", data := .fields #[.none, .bool false, .ref s.heap.objs.size, rawInt 0, .none, .none] }) (s.heap.objs.size + 1) s.heap.objs.size 0 .none := by
    have := Heap.get?_push_size (s.heap.push o) (o := { cls := .type "enumerate", data := .fields #[.none, .bool false, .ref s.heap.objs.size, rawInt 0, .none, .none] }) rfl
    rw [hz] at this; exact this
  refine ⟨⟨_, he, rfl⟩, h _ he (Heap.get?_push_of_some _ (Heap.get?_push_size _ B.free)) (by rw [Heap.size_push, hz]) fun b o x => Heap.get?_push_of_some _ (Heap.get?_push_of_some _ x)⟩
theorem kn_enum_end {e it : Addr} {c : Int} {old : Value} {Q : Option Value → Shared → Prop} (he : IsEnum s.heap e it c old)
    (hN : ∀ (Q : Value → Shared → Prop) (E : Value → Shared → Prop), (∀ h' e, Heap.ExtBut it s.heap h' → (∃ o, h'.get? e = some o ∧ o.cls = .type "StopIteration") → E (.ref e) { s with heap := h' }) → wpAny (model prog w) A.in1 (Builtin.SmallTypes.nextOf (.ref it)) Q E s)
    (hQ : ∀ h', Heap.ExtBut it s.heap h' → Q none { s with heap := h' }) : wpAny (model prog w) A (pyNext (.ref e)) Q E s := by
  have hT : s.TypeIs (.ref e) "enumerate" := ⟨_, he, rfl⟩
  unfold pyNext
  refine wpAny_bind (wpAny_attempt (wpAny_callSpecial?_slot (name := Str.ofString "__next__") hT F.slot_enumerate_next
    (wpAny_call_entry F.slot_enumerate_next hT F.entry_enumerate_next ?_ (F.args_enumerate_next_1 _))))
  show wpAny _ _ (field (.ref e) 2 >>= _) _ _ _
  refine wpAny_bind (wpAny_field he rfl (x := .ref it) rfl ?_)
  refine wpAny_bind (hN _ _ fun h' x he' hx' => ?_)
  obtain ⟨o, ho, hc⟩ := hx'
  refine wpAny_bind (wpAny_isInstance (T := "StopIteration") (b := true) ⟨o, ho, hc⟩ isSubtype_stop ?_)
  exact wpAny_pure (hQ _ he')
theorem kn_list_extend_tuple (l : Addr) (items : Array Value) (n : Nat) (b : Addr) (dct : Option Addr) (sl : Array (Option Value)) (items2 : Array Value) (n2 : Nat) (hs0 : ¬(!items.isEmpty && Builtin.List.listTooLong (items.size + items2.size)) = true) (hs1 : items.size ≤ sizeLine) (hs2 : items.size + items2.size ≤ sizeLine + 1) :
    Meets (Builtin.«list.extend» ⟨[.ref l, .ref b], []⟩) (fun _ R s => s.heap.get? l = some { cls := .type "list", dict := none, data := .seq items n, slots := #[] } ∧ s.heap.get? b = some { cls := .type "tuple", dict := dct, data := .seq items2 n2, slots := sl } ∧ R (.ok (.ret Value.none)) { s with heap := s.heap.update l (Obj.mapSeq fun x => x ++ items2), toks := s.toks }) :=
  .of_wp fun prog w A R s h => by
    obtain ⟨hp, g, d, tk, os⟩ := s; obtain ⟨hl, hb, h⟩ := h; have f1 := idx_int; have f2 := sub_tuple_tuple; have f3 := sub_list_list; have f4 := sub_tuple_list; have f5 := sub_list_tuple;
    have hz' : (items ++ items2).size ≤ sizeLine + 1 := by rw [Array.size_append]; exact hs2
    wp_walk using (wpAny_updateSeq hl rfl (hz := hs1) (_hz' := hz')), wpAny_loadPart' hl, wpAny_loadPart' hb; exact ⟨_, rfl, h⟩
end
end PySem
namespace Kn
open PySem PySem.Spec PyProof.Rows L2
/-! ### enumerate of a tuple, of a text -/
def Itet (K : PySem.W.Frag) (a : Addr) : It :=
  ⟨fun i H => ∃ (xs : List V) (x : V), SqT K H a xs ∧ xs[i]? = some x, fun i H v H' => ∃ T x, v = .ref T ∧ H T = none ∧ H' = upd H T (.tup [.int (i : Nat), x]) ∧ ∀ xs, SqT K H a xs → xs[i]? = some x, fun i H => ∃ xs : List V, SqT K H a xs ∧ xs.length ≤ i⟩
theorem turn_enumT {P : Program} {w : World} {K : PySem.W.Frag} {elts : List Expr} {kk : Nat} {tpos : Pos} (a e it : Addr) :
    Turn P w K (.Tuple elts kk tpos) (Itet K a) [e, it] e (fun i h => (∃ old, IsEnum h e it ((i : Nat) : Int) old) ∧ h.IsTupleIter it a i ∧ e ≠ it) where
  mem := by simp
  obj := fun i h st b hb => by
    obtain ⟨⟨old, he⟩, ⟨o, ho, hc, hd⟩, _⟩ := st
    have e' : b = e ∨ b = it := by simpa using hb
    rcases e' with z | z
    · rw [z]; exact ⟨_, he, fun v q => nomatch q⟩
    · rw [z]; exact ⟨o, ho, fun v q => by rw [hd] at q; cases q⟩
  keep := fun i h h' st k => let ⟨⟨old, he⟩, hi, hne⟩ := st; ⟨⟨old, k e (by simp) _ he⟩, hi.at fun o q => k it (by simp) o q, hne⟩
  item := by
    intro X hP hw hK hc i pins s σ H E I hf st hg
    subst hP hw hK
    obtain ⟨⟨old, he⟩, hit, hne⟩ := st
    obtain ⟨xs, x, hq, hx⟩ := hg
    obtain ⟨its, rv, p, hz⟩ := I.tuple hq
    obtain ⟨u, hu, ru⟩ := rv.get hx
    have hel : e < s.heap.objs.size := Heap.lt_size he
    have hil : it < s.heap.objs.size := by obtain ⟨_, q, _⟩ := hit; exact Heap.lt_size q
    have hai : a ≠ it := fun z => by
      obtain ⟨o, h1, c1, _⟩ := p
      obtain ⟨o', h2, c2, _⟩ := hit
      rw [z, h2] at h1; cases h1; rw [c2] at c1; exact absurd (Value.type.inj c1) (by decide)
    have hae : a ≠ e := fun z => by
      obtain ⟨o, h1, c1, _⟩ := p
      have h2 : s.heap.get? e = some _ := he
      rw [z, h2] at h1; cases h1; exact absurd (Value.type.inj c1) (by decide)
    have hi : i < its.toArray.size := by
      have q := (List.getElem?_eq_some_iff.mp hu).1
      simpa using q
    refine wpAny_pyNext_enum_itemC (Draws.tuple (A := X.A.in1) (show X.A.in1.handled = none from I.ok.hd hc) it a hai its.toArray) he ⟨hit, p⟩ hi hne (by simp [hne, Ne.symm hae]) fun x' h' tk hP' ho hst' hT hsz hk => ?_
    obtain rfl : x' = u := by
      have q : its.toArray[i]? = some x' := hP'
      have q2 : its.toArray[i]? = some u := by simpa using hu
      rw [q2] at q; exact (Option.some.inj q).symm
    refine ⟨_, rfl, wpAny_letOwnedTupleGo_enum (s := { s with heap := h', toks := tk + 1 }) ho fun h'' he' sb => ?_⟩
    have hT2 : h''.get? s.heap.objs.size = some { cls := .type "tuple", data := .seq #[.int i tk, x'] } := (sb.2 _ (Nat.ne_of_gt hel)).trans hT
    have new : ObjOk X.prog X.w (upd H s.heap.objs.size (.tup [.int (i : Nat), x])) h'' s.heap.objs.size (.tup [.int (i : Nat), x]) :=
      ⟨by show 2 ≤ sizeLine; decide, [.int i tk, x'], .cons ⟨_, rfl⟩ (.cons ru .nil), ⟨_, hT2, rfl, _, rfl⟩⟩
    have I1 : Inv X pins σ (upd H s.heap.objs.size (.tup [.int (i : Nat), x])) { s with heap := h'', toks := tk + 1 } :=
      I.turnedNew (ch := [e, it]) (fun b ob hb q => (sb.2 b (fun z => hb (by simp [z]))).trans (hk b ob (fun z => hb (by simp [z])) (fun z => hb (by simp [z])) q)) hf (Nat.le_refl _) new
    refine ⟨.ref s.heap.objs.size, _, I1, rfl, ⟨_, x, rfl, I.hok.fresh (Nat.le_refl _), rfl, fun ys hy => by rw [I.tuple_inj hy hq]; exact hx⟩, ⟨⟨x', ?_⟩, hst'.1.at fun o q => (sb.2 it (Ne.symm hne)).trans q, hne⟩, fun b hb => ?_⟩
    · have e1 : ((i + 1 : Nat) : Int) = (i : Int) + 1 := by omega
      rw [e1]; exact he'
    · have hb' : b < s.heap.objs.size := by
        have e' : b = e ∨ b = it := by simpa using hb
        rcases e' with z | z
        · rw [z]; exact hel
        · rw [z]; exact hil
      rw [upd_ne (Nat.ne_of_lt hb')]
      exact (hf b hb).1
  done := by
    intro X hP hw hK hc i pins s σ H E I hf st hg
    subst hP hw hK
    obtain ⟨⟨old, he⟩, hit, hne⟩ := st
    obtain ⟨xs, hq, hx⟩ := hg
    obtain ⟨its, rv, p, hz⟩ := I.tuple hq
    obtain ⟨f0, f1, f2, f3, f4, f5⟩ := hf it (by simp)
    have hl := rv.length
    have hai : a ≠ it := fun z => by
      obtain ⟨o, h1, c1, _⟩ := p
      obtain ⟨o', h2, c2, _⟩ := hit
      rw [z, h2] at h1; cases h1; rw [c2] at c1; exact absurd (Value.type.inj c1) (by decide)
    have hnone : its.toArray[i]? = none := by simp; omega
    exact kn_enum_end he (fun Q E hE => wpAny_nextOf_tuple_end (A := X.A.in1) (show X.A.in1.handled = none from I.ok.hd hc) hit p hnone hE) fun h' eb => ⟨rfl, I.turned (t' := s.toks) (fun b o hb q => eb b o hb q) f0 f1 f3 f4 f5⟩
  self := fun A i s Q E st h => let ⟨⟨_, he⟩, _⟩ := st; wpAny_pyIter_enum he h
def Ites (z : Str) : It :=
  ⟨fun i _ => i < z.cps.size, fun i H v H' => ∃ T c, v = .ref T ∧ H T = none ∧ H' = upd H T (.tup [.int (i : Nat), .str ⟨#[c]⟩]) ∧ z.cps[i]? = some c, fun i _ => z.cps.size ≤ i⟩
theorem turn_enumS {P : Program} {w : World} {K : PySem.W.Frag} {elts : List Expr} {kk : Nat} {tpos : Pos} (z : Str) (t : Tok) (e it : Addr) :
    Turn P w K (.Tuple elts kk tpos) (Ites z) [e, it] e (fun i h => (∃ old, IsEnum h e it ((i : Nat) : Int) old) ∧ h.IsStrIter it (strIterType z) z t i ∧ e ≠ it) where
  mem := by simp
  obj := fun i h st b hb => by
    obtain ⟨⟨old, he⟩, ⟨o, ho, hc, hd⟩, _⟩ := st
    have e' : b = e ∨ b = it := by simpa using hb
    rcases e' with z | z
    · rw [z]; exact ⟨_, he, fun v q => nomatch q⟩
    · rw [z]; exact ⟨o, ho, fun v q => by rw [hd] at q; cases q⟩
  keep := fun i h h' st k => let ⟨⟨old, he⟩, ⟨o, ho, r⟩, hne⟩ := st; ⟨⟨old, k e (by simp) _ he⟩, ⟨o, k it (by simp) o ho, r⟩, hne⟩
  item := by
    intro X hP hw hK hc i pins s σ H E I hf st hg
    subst hP hw hK
    obtain ⟨⟨old, he⟩, hit, hne⟩ := st
    have hg : i < z.cps.size := hg
    have hel : e < s.heap.objs.size := Heap.lt_size he
    have hil : it < s.heap.objs.size := by obtain ⟨_, q, _⟩ := hit; exact Heap.lt_size q
    refine wpAny_pyNext_enum_itemC (Draws.text (A := X.A.in1) (show X.A.in1.handled = none from I.ok.hd hc) it z t) he hit hg hne (by simp [hne]) fun x' h' tk hP' ho hst' hT hsz hk => ?_
    obtain ⟨c, u, hcx, rfl⟩ := hP'
    refine ⟨_, rfl, wpAny_letOwnedTupleGo_enum (s := { s with heap := h', toks := tk + 1 }) ho fun h'' he' sb => ?_⟩
    have hT2 : h''.get? s.heap.objs.size = some { cls := .type "tuple", data := .seq #[.int i tk, .str ⟨#[c]⟩ u] } := (sb.2 _ (Nat.ne_of_gt hel)).trans hT
    have new : ObjOk X.prog X.w (upd H s.heap.objs.size (.tup [.int (i : Nat), .str ⟨#[c]⟩])) h'' s.heap.objs.size (.tup [.int (i : Nat), .str ⟨#[c]⟩]) :=
      ⟨by show 2 ≤ sizeLine; decide, [.int i tk, .str ⟨#[c]⟩ u], .cons ⟨_, rfl⟩ (.cons ⟨_, rfl⟩ .nil), ⟨_, hT2, rfl, _, rfl⟩⟩
    have I1 : Inv X pins σ (upd H s.heap.objs.size (.tup [.int (i : Nat), .str ⟨#[c]⟩])) { s with heap := h'', toks := tk + 1 } :=
      I.turnedNew (ch := [e, it]) (fun b ob hb q => (sb.2 b (fun z => hb (by simp [z]))).trans (hk b ob (fun z => hb (by simp [z])) (fun z => hb (by simp [z])) q)) hf (Nat.le_refl _) new
    obtain ⟨oi, hoi, hri⟩ := hst'
    refine ⟨.ref s.heap.objs.size, _, I1, rfl, ⟨_, c, rfl, I.hok.fresh (Nat.le_refl _), rfl, hcx⟩, ⟨⟨.str ⟨#[c]⟩ u, ?_⟩, ⟨oi, (sb.2 it (Ne.symm hne)).trans hoi, hri⟩, hne⟩, fun b hb => ?_⟩
    · have e1 : ((i + 1 : Nat) : Int) = (i : Int) + 1 := by omega
      rw [e1]; exact he'
    · have hb' : b < s.heap.objs.size := by
        have e' : b = e ∨ b = it := by simpa using hb
        rcases e' with z | z
        · rw [z]; exact hel
        · rw [z]; exact hil
      rw [upd_ne (Nat.ne_of_lt hb')]
      exact (hf b hb).1
  done := by
    intro X hP hw hK hc i pins s σ H E I hf st hg
    subst hP hw hK
    obtain ⟨⟨old, he⟩, hit, hne⟩ := st
    have hg : z.cps.size ≤ i := hg
    obtain ⟨f0, f1, f2, f3, f4, f5⟩ := hf it (by simp)
    have hnone : z.cps[i]? = none := Array.getElem?_eq_none hg
    refine kn_enum_end he (fun Q E hE => ?_) fun h' eb => ⟨rfl, I.turned (t' := s.toks) (fun b o hb q => eb b o hb q) f0 f1 f3 f4 f5⟩
    cases ha : z.cps.all (· < 128)
    · have hit2 : s.heap.IsStrIter it "str_iterator" z t i := by simpa only [strIterType, ha, Bool.false_eq_true, if_false] using hit
      exact wpAny_nextOf_wide_end (A := X.A.in1) (show X.A.in1.handled = none from I.ok.hd hc) hit2 hnone hE
    · have hit2 : s.heap.IsStrIter it "str_ascii_iterator" z t i := by simpa only [strIterType, ha, if_true] using hit
      exact wpAny_nextOf_ascii_end (A := X.A.in1) (show X.A.in1.handled = none from I.ok.hd hc) hit2 hnone hE
  self := fun A i s Q E st h => let ⟨⟨_, he⟩, _⟩ := st; wpAny_pyIter_enum he h
/-- what enumerate(text) walks: n turns, each a new pair -/
def iEnumS (ta : TA) : TI := fun σ H R => ta σ H fun vs H1 => ∃ z, vs = [.str z] ∧ Walks z.cps.size (fun _ => True) (YPair (fun i => some (.int (i : Nat))) (fun i => z.cps[i]?.map fun c => .str ⟨#[c]⟩)) R H1
theorem walk_enumS {z : Str} : Walk (Ites z) z.cps.size (fun _ => True) (YPair (fun i => some (.int (i : Nat))) (fun i => z.cps[i]?.map fun c => .str ⟨#[c]⟩)) := by
  refine ⟨fun _ _ hi _ => hi, fun _ _ => Nat.le_refl _, fun i H v H' hi _ y => ?_⟩
  obtain ⟨T, c, h1, h2, h3, h4⟩ := y
  exact ⟨T, .int (i : Nat), .str ⟨#[c]⟩, h1, h2, h3, rfl, by simp [h4]⟩
theorem pi_enumS {X : Cx} {e : Expr} {ta : TA} {p pos tpos : Pos} {elts : List Expr} {kk : Nat} (hg : Gl X "enumerate") (hm : X.mg "enumerate" = none) (ha : PA X [e] ta) (hs : starEach [e] X.env = [(false, eval e X.env)] := by rfl) :
    PI X (.Tuple elts kk tpos) (.Call (.Name "enumerate" p) [e] [] pos) (iEnumS ta) := by
  refine ⟨fun pins s σ H R I h => ?_⟩
  refine Call_ (ld_blt I hg hm boot_enumerate (PyProof.Rows.callWith_type1 (thn (ha.run pos pins s σ H _ I h) fun us s1 ⟨vs, H1, I1, r1, q1⟩ => ?_) hs rfl))
  obtain ⟨z, ex, q⟩ := q1
  subst ex
  cases r1 with
  | cons r rr =>
    cases rr
    obtain ⟨t, rfl⟩ := r
    refine kn_call_enumerate (begins_text z t) trivial fun h' he hit hsz hk => wpAny_pyIter_enum he ?_
    have I2 : Inv X pins σ H1 { s1 with heap := h' } := I1.kept (t' := s1.toks) hk
    refine ⟨s1.heap.objs.size + 1, [s1.heap.objs.size + 1, s1.heap.objs.size], _, _, H1, rfl, I2, turn_enumS z t (s1.heap.objs.size + 1) s1.heap.objs.size, ⟨⟨.none, he⟩, ⟨_, hit, rfl, rfl⟩, Nat.succ_ne_self _⟩, fun b hb => ?_, q _ walk_enumS⟩
    have e' : b = s1.heap.objs.size + 1 ∨ b = s1.heap.objs.size := by simpa using hb
    have hle : s1.heap.objs.size ≤ b := by
      rcases e' with z | z
      · rw [z]; exact Nat.le_add_right _ _
      · rw [z]; exact Nat.le_refl _
    exact I1.fpOk hle (I1.hok.fresh hle)
/-- xs.extend(a tuple) -/
def rExtendT (K : PySem.W.Frag) : V → List V → Hp → VK → Prop := fun x vs H Q => ∃ l b xs zs, x = .ref l ∧ vs = [.ref b] ∧ H l = some (.lst xs) ∧ SqT K H b zs ∧ xs.length + zs.length ≤ sizeLine ∧ Q .non (upd H l (.lst (xs ++ zs)))
theorem mt_extendT {X : Cx} : MtM X "list.extend" (rExtendT X.K) := by
  intro pins s σ H x vs v us Q I rx rv h
  obtain ⟨l, b, xs, zs, rfl, rfl, hH, hB, hz, q⟩ := h
  cases rx
  obtain ⟨u, rfl, ru⟩ := rv.one
  cases ru
  obtain ⟨z, its, n, r, hl, e⟩ := I.lstM hH
  obtain ⟨its2, r2, ⟨⟨c2, d2, dt2, sl2⟩, e2, hc2, n2, hd2⟩, z2⟩ := I.tuple hB
  obtain rfl : c2 = .type "tuple" := hc2
  obtain rfl : dt2 = .seq its2.toArray n2 := hd2
  have hl2 := r2.length
  have hsz : its.toArray.size + its2.toArray.size ≤ sizeLine := by rw [List.size_toArray, List.size_toArray]; omega
  have hlong : ¬ (!its.toArray.isEmpty && Builtin.List.listTooLong (its.toArray.size + its2.toArray.size)) = true := by
    rw [notLongL hsz, Bool.and_false]
    exact Bool.false_ne_true
  refine call_meets F.slot_list_extend ⟨_, e, rfl⟩ F.entry_list_extend (F.args_list_extend_2 _ _)
    (kn_list_extend_tuple l its.toArray n b d2 sl2 its2.toArray n2 hlong (by rw [List.size_toArray]; omega) (by omega)) ⟨e, e2, ?_⟩
  refine ⟨.non, _, I.lset (its' := its ++ its2) hH e (by simp) (r.append r2) ?_, rfl, q⟩
  rw [List.length_append]
  omega
/-- enumerate(list or tuple) -/
def iEnumQ (ta : TA) : TI := fun σ H R => ta σ H fun vs H1 => ∃ a b xs, vs = [.ref a] ∧ H1 a = some (sq b xs) ∧ Walks xs.length (fun H => H a = some (sq b xs)) (YPair (fun i => some (.int (i : Nat))) (fun i => xs[i]?)) R H1
theorem walk_enumL {K : PySem.W.Frag} {a : Addr} {xs : List V} : Walk (Ite K a) xs.length (fun H => H a = some (sq false xs)) (YPair (fun i => some (.int (i : Nat))) (fun i => xs[i]?)) :=
  walk_enum.mono (fun _ h => SqL.of h) fun _ _ _ _ _ _ y => y
theorem walk_enumT {K : PySem.W.Frag} {a : Addr} {xs : List V} : Walk (Itet K a) xs.length (fun H => H a = some (sq true xs)) (YPair (fun i => some (.int (i : Nat))) (fun i => xs[i]?)) := by
  refine ⟨fun i _ hi q => ⟨xs, xs[i], SqT.of q, by simp [hi]⟩, fun _ q => ⟨xs, SqT.of q, Nat.le_refl _⟩, fun i H v H' _ q y => ?_⟩
  obtain ⟨T, x, h1, h2, h3, h4⟩ := y
  exact ⟨T, .int (i : Nat), x, h1, h2, h3, rfl, h4 xs (SqT.of q)⟩
theorem pi_enumQ {X : Cx} {e : Expr} {ta : TA} {p pos tpos : Pos} {elts : List Expr} {kk : Nat} (hg : Gl X "enumerate") (hm : X.mg "enumerate" = none) (ha : PA X [e] ta) (hs : starEach [e] X.env = [(false, eval e X.env)] := by rfl) :
    PI X (.Tuple elts kk tpos) (.Call (.Name "enumerate" p) [e] [] pos) (iEnumQ ta) := by
  refine ⟨fun pins s σ H R I h => ?_⟩
  refine Call_ (ld_blt I hg hm boot_enumerate (PyProof.Rows.callWith_type1 (thn (ha.run pos pins s σ H _ I h) fun us s1 ⟨vs, H1, I1, r1, q1⟩ => ?_) hs rfl))
  obtain ⟨a, b, xs, ex, hq, q⟩ := q1
  subst ex
  have fin : ∀ b : Addr, b ∈ [s1.heap.objs.size + 1, s1.heap.objs.size] → FpOk X pins H1 b := fun b hb => by
    have e' : b = s1.heap.objs.size + 1 ∨ b = s1.heap.objs.size := by simpa using hb
    have hle : s1.heap.objs.size ≤ b := by
      rcases e' with z | z
      · rw [z]; exact Nat.le_add_right _ _
      · rw [z]; exact Nat.le_refl _
    exact I1.fpOk hle (I1.hok.fresh hle)
  cases r1 with
  | cons r rr =>
    cases rr
    cases r
    cases b with
    | false =>
      obtain ⟨its, rv, p', hz⟩ := I1.list (SqL.of hq)
      refine call_enumerate_list p'.isList fun h' he hit hsz hk => wpAny_pyIter_enum he ?_
      have I2 : Inv X pins σ H1 { s1 with heap := h' } := I1.kept (t' := s1.toks) hk
      exact ⟨s1.heap.objs.size + 1, [s1.heap.objs.size + 1, s1.heap.objs.size], _, _, H1, rfl, I2, turn_enum a (s1.heap.objs.size + 1) s1.heap.objs.size, ⟨⟨.none, he⟩, hit, Nat.succ_ne_self _⟩, fin, q _ walk_enumL⟩
    | true =>
      obtain ⟨its, rv, p', hz⟩ := I1.tuple (SqT.of hq)
      refine kn_call_enumerate (begins_tuple a its.toArray) p' fun h' he hit hsz hk => wpAny_pyIter_enum he ?_
      have I2 : Inv X pins σ H1 { s1 with heap := h' } := I1.kept (t' := s1.toks) hk
      exact ⟨s1.heap.objs.size + 1, [s1.heap.objs.size + 1, s1.heap.objs.size], _, _, H1, rfl, I2, turn_enumT a (s1.heap.objs.size + 1) s1.heap.objs.size, ⟨⟨.none, he⟩, ⟨_, hit, rfl, rfl⟩, Nat.succ_ne_self _⟩, fin, q _ walk_enumT⟩
end Kn
set_option Elab.async false
set_option linter.all false
set_option maxRecDepth 100000
set_option maxHeartbeats 4000000
namespace Kn
open PySem PySem.Spec PyProof.Rows L2
section
variable {prog : Program} {w : World} {A : Around} {E : Value → Shared → Prop}
theorem walks_text (hh : A.handled = none) (it : Addr) (x : Str) (t : Tok) : PySem.Walks prog w A it [it] [it] x.cps.size (SignAt x) (fun i h => h.IsStrIter it (strIterType x) x t i) := by
  cases ha : x.cps.all (· < 128)
  · simp only [strIterType, ha, Bool.false_eq_true, if_false]
    exact Walks.strWide hh it x t
  · simp only [strIterType, ha, if_true]
    exact Walks.strAscii hh it x t
theorem draw_text {it : Addr} {x : Str} {t : Tok} (W : PySem.Walks prog w A it [it] [it] x.cps.size (SignAt x) (fun i h => h.IsStrIter it (strIterType x) x t i)) :
    ∀ (n i : Nat) (s : Shared) (Q : List Value → Shared → Prop), s.heap.IsStrIter it (strIterType x) x t i → i + n ≤ x.cps.size →
    (∀ h' tk us, h'.IsStrIter it (strIterType x) x t (i + n) → (∀ b o, b ≠ it → s.heap.get? b = some o → h'.get? b = some o) → Vals (((x.cps.toList.drop i).take n).map fun c => V.str ⟨#[c]⟩) us → Q us { s with heap := h', toks := tk }) →
    wpAny (model prog w) A (draw (.ref it) n) Q E s
  | 0, i, s, Q, hit, _, hQ => by
    show wpAny _ _ (pure []) Q E s
    exact wpAny_pure (hQ s.heap s.toks [] hit (fun _ _ _ e => e) (by simpa using Paired.nil))
  | n + 1, i, s, Q, hit, hle, hQ => by
    have hlt : i < x.cps.size := by omega
    show wpAny _ _ (pyNext (.ref it) >>= _) Q E s
    refine wpAny_bind (W.item i s _ _ hlt hit fun v h1 tk1 hv hit1 k1 => ?_)
    obtain ⟨c, u, hcx, rfl⟩ := hv
    refine wpAny_bind (wpAny_holding (draw_text W n (i + 1) _ _ hit1 (by omega) fun h2 tk2 us hit2 k2 r => wpAny_pure ?_))
    refine hQ h2 tk2 _ (by rw [show i + (n + 1) = i + 1 + n by omega]; exact hit2) (fun b o hb e => k2 b o hb (k1 b o (by simpa using hb) e)) ?_
    have hc : x.cps.toList[i]? = some c := by simpa using hcx
    obtain ⟨hlt', hcc⟩ := List.getElem?_eq_some_iff.mp hc
    have hd : x.cps.toList.drop i = c :: x.cps.toList.drop (i + 1) := by rw [List.drop_eq_getElem_cons hlt', hcc]
    rw [hd, List.take_succ_cons, List.map_cons]
    exact .cons ⟨u, rfl⟩ r
theorem unpackItems_text {s : Shared} {x : Str} {t : Tok} {Q : List Value → Shared → Prop} (hh : A.handled = none)
    (hQ : ∀ h' tk us, Heap.ExtBut s.heap.objs.size s.heap h' → Vals (x.cps.toList.map fun c => V.str ⟨#[c]⟩) us → Q us { s with heap := h', toks := tk }) : wpAny (model prog w) A (unpackItems (.str x t) x.cps.size none) Q E s := by
  unfold unpackItems
  refine wpAny_bind ?_
  unfold notIterableAtAll
  refine wpAny_bind (wpAny_specialOf (typeIs_str s x t) F.slot_str_iter.lookup ?_)
  refine wpAny_pure ?_
  simp only [Bool.false_eq_true, if_false]
  refine wpAny_bind (wpAny_holding (wpAny_pyIter_strU ?_))
  have W := walks_text (prog := prog) (w := w) (A := A) hh s.heap.objs.size x t
  refine wpAny_bind (wpAny_holding (draw_text W x.cps.size 0 _ _ ⟨_, Heap.get?_push_size _ rfl, rfl, rfl⟩ (by omega) fun h1 tk1 us hit1 k1 r => ?_))
  have hall : (x.cps.toList.drop 0).take x.cps.size = x.cps.toList := by
    rw [List.drop_zero]; exact List.take_of_length_le (by simp)
  rw [hall] at r
  have hl : us.length = x.cps.size := by rw [← r.length]; simp
  rw [if_neg (by omega)]
  rw [Nat.zero_add] at hit1
  refine wpAny_bind (wpAny_holding (W.done _ _ _ hit1 fun h2 tk2 k2 => ?_))
  simp only [Option.isSome_none, Bool.false_eq_true, if_false]
  exact wpAny_pure (hQ h2 tk2 us (fun b o hb e => k2 b o (by simpa using hb) (k1 b o hb (Heap.get?_push_of_some _ e))) r)
end
/-- a, b = a text of that length -/
def gTxt (n : Nat) (t : TGs) : TG := fun v σ H Q => ∃ z : Str, v = .str z ∧ z.cps.size = n ∧ t (z.cps.toList.map fun c => .str ⟨#[c]⟩) σ H Q
theorem pg_txt {X : Cx} {es : List Expr} {k : Nat} {t : TGs} {n : Nat} {pos : Pos} (hc : X.calm = true) (h : PGs X es t)
    (hn : (assignEach es X.env).length = n := by rfl) (hst : (assignEach es X.env).findIdx? (·.1) = none := by rfl) : PG X (.Tuple es k pos) (gTxt n t) := by
  refine ⟨fun pins s σ H v u Q I r hw => ?_⟩
  obtain ⟨z, e1, hl, hw⟩ := hw
  subst e1
  obtain ⟨tk, rfl⟩ := r
  rw [PyProof.Rows.assign_Tuple]
  refine wpAny_bind (wpAny_standAt ?_)
  unfold unpack
  rw [hn, hst, ← hl]
  refine wpAny_bind (wpAny_holding (unpackItems_text (I.ok.hd hc) fun h' tk' us hx hr => ?_))
  have I1 : Inv X pins σ H { s with heap := h', toks := tk' } := I.kept fun b o e => hx b o (Nat.ne_of_lt (Heap.lt_size e)) e
  exact h.run pins _ σ H _ _ Q I1 hr hw
end Kn
set_option Elab.async false
set_option linter.all false
set_option maxRecDepth 100000
set_option maxHeartbeats 4000000
namespace Kn
open PySem PySem.Spec PyProof.Rows L2
/-- THE RULE for a def of the text that lets nothing out -/
theorem okN {P : Program} {w : World} {K : PySem.W.Frag} {mg : Str → Option Value} {base : Heap} {x qual : Str} {params : Arguments} {body : List Stmt} {scope : Scope} {dvs : List V} {kws : List (Str × V)} {f : Addr} {fd : FuncData} {N ps : List Str} {k : Nat} {sp : Sp}
    (F : FunD K x qual params body scope dvs kws f fd) (S : FnScope N ps scope) (len : ∀ vs H Q E, sp vs H Q E → vs.length = ps.length)
    (hbody : ∀ (cdv : Value) (A : Around) (outer : List Env) (s : Shared) (H : Hp) (vs : List V) (Q : VK) (E : XK), Room k (A.deeper (envOfC qual scope s.heap.objs.size f cdv)) → sp vs H Q E →
      ∃ t, PSs (cxOf CX0 P w K mg base N qual scope f cdv A outer s H E).nox body t ∧ t { nx := fun _ H' => Q .non H', rt := Q } (start N vs) H) : FnOk P w K mg base CX0 (k + 1) f fd ps sp :=
  F.ok S len fun cdv A outer s H vs Q E hr hsp => by
    obtain ⟨t, h, q⟩ := hbody cdv A outer s H vs Q E hr hsp
    exact ⟨t, h.nox, q⟩
/-! ### sorted of tuples of ints and texts: some arrangement -/
def OfPat : List Bool → List V → Prop
  | [], [] => True
  | true :: p, .str _ :: r => OfPat p r
  | false :: p, .int _ :: r => OfPat p r
  | _, _ => False
theorem OfPat.len : ∀ {p : List Bool} {r : List V}, OfPat p r → r.length = p.length
  | [], [], _ => rfl
  | true :: p, .str _ :: r, h => congrArg (· + 1) (OfPat.len (p := p) (r := r) h)
  | false :: p, .int _ :: r, h => congrArg (· + 1) (OfPat.len (p := p) (r := r) h)
  | [], _ :: _, h => h.elim
  | true :: _, [], h => h.elim
  | false :: _, [], h => h.elim
  | true :: _, .non :: _, h => h.elim
  | true :: _, .bl _ :: _, h => h.elim
  | true :: _, .int _ :: _, h => h.elim
  | true :: _, .byt _ :: _, h => h.elim
  | true :: _, .flt _ :: _, h => h.elim
  | true :: _, .ref _ :: _, h => h.elim
  | true :: _, .ty _ :: _, h => h.elim
  | false :: _, .non :: _, h => h.elim
  | false :: _, .bl _ :: _, h => h.elim
  | false :: _, .str _ :: _, h => h.elim
  | false :: _, .byt _ :: _, h => h.elim
  | false :: _, .flt _ :: _, h => h.elim
  | false :: _, .ref _ :: _, h => h.elim
  | false :: _, .ty _ :: _, h => h.elim
theorem OfPat.strs {p : List Bool} {xs : List V} (h : OfPat (true :: p) xs) : ∃ z r, xs = .str z :: r ∧ OfPat p r := by
  cases xs with
  | nil => exact h.elim
  | cons x r => cases x <;> first | exact ⟨_, _, rfl, h⟩ | exact (show False from h).elim
theorem OfPat.ints {p : List Bool} {xs : List V} (h : OfPat (false :: p) xs) : ∃ i r, xs = .int i :: r ∧ OfPat p r := by
  cases xs with
  | nil => exact h.elim
  | cons x r => cases x <;> first | exact ⟨_, _, rfl, h⟩ | exact (show False from h).elim
/-- v is a tuple of these in the heap -/
def IsTupV (h : Heap) (v : Value) (ks : List V) : Prop := ∃ a o us n, v = .ref a ∧ h.get? a = some o ∧ o.cls = .type "tuple" ∧ o.data = .seq (List.toArray us) n ∧ Vals ks us
theorem IsTupV.keeps {h h' : Heap} {v : Value} {ks : List V} (p : IsTupV h v ks) (k : ∀ b o, h.get? b = some o → o.cls = .type "tuple" → h'.get? b = some o) : IsTupV h' v ks := by
  obtain ⟨a, o, us, n, e, ho, hc, hd, r⟩ := p
  exact ⟨a, o, us, n, e, k _ _ ho hc, hc, hd, r⟩
section
variable {prog : Program} {w : World} {A : Around} {E : Value → Shared → Prop} {s : Shared}
theorem oneLt_strs (c : Bool) {p q : Str} {t u : Tok} {Q : Bool → Shared → Prop} (h : Q (decide (p.cps.toList < q.cps.toList)) s) : wpAny (model prog w) A (oneLt' c (.str p t) (.str q u)) Q E s := by
  cases c with
  | true => exact oneLt_str h
  | false => exact PySem.W.kat_one _ _ (PySem.P.lt_str (Q := PySem.W.BoolBack Q) h)
theorem kat_tot : ∀ (pt : List Bool) {xs ys : List V} {us vs : List Value}, OfPat pt xs → OfPat pt ys → Vals xs us → Vals ys vs → ∀ i : Nat, ∃ b : Bool, PySem.W.KatLex prog w A true false (fun r s' => s' = s ∧ r = b) (us.zip vs) i s
  | [], xs, ys, us, vs, h1, h2, r1, r2, i => by
    cases r1 with
    | cons _ _ => exact h1.elim
    | nil => exact ⟨false, PySem.W.kat_nil ⟨rfl, rfl⟩⟩
  | true :: p, xs, ys, us, vs, h1, h2, r1, r2, i => by
    obtain ⟨z, r, rfl, h1⟩ := h1.strs
    obtain ⟨z', r', rfl, h2⟩ := h2.strs
    cases r1 with
    | cons q1 t1 =>
    cases r2 with
    | cons q2 t2 =>
    obtain ⟨tk, rfl⟩ := q1
    obtain ⟨tk', rfl⟩ := q2
    by_cases e : z = z'
    · obtain ⟨b, hb⟩ := kat_tot p h1 h2 t1 t2 (i + 1)
      refine ⟨b, PySem.W.kat_cons (wpAny_eqBool_str ?_)⟩
      rw [decide_eq_true e]
      exact PySem.W.kat_yes hb
    · refine ⟨decide (z.cps.toList < z'.cps.toList), PySem.W.kat_cons (wpAny_eqBool_str ?_)⟩
      rw [decide_eq_false e]
      exact PySem.W.kat_no (oneLt_strs _ ⟨rfl, rfl⟩)
  | false :: p, xs, ys, us, vs, h1, h2, r1, r2, i => by
    obtain ⟨z, r, rfl, h1⟩ := h1.ints
    obtain ⟨z', r', rfl, h2⟩ := h2.ints
    cases r1 with
    | cons q1 t1 =>
    cases r2 with
    | cons q2 t2 =>
    obtain ⟨tk, rfl⟩ := q1
    obtain ⟨tk', rfl⟩ := q2
    by_cases e : z = z'
    · obtain ⟨b, hb⟩ := kat_tot p h1 h2 t1 t2 (i + 1)
      refine ⟨b, PySem.W.kat_cons (wpAny_eqBool_int ?_)⟩
      rw [beq_iff_eq.mpr e]
      exact PySem.W.kat_yes hb
    · refine ⟨decide (z < z'), PySem.W.kat_cons (wpAny_eqBool_int ?_)⟩
      rw [beq_eq_false_iff_ne.mpr e]
      exact PySem.W.kat_no (TS.oneLt_ints _ ⟨rfl, rfl⟩)
theorem tup_tot {pt : List Bool} {vs : List Value} (hp : ∀ v ∈ vs, ∃ ks, OfPat pt ks ∧ IsTupV s.heap v ks) : Srt.Tot prog w A s (tuples' true) (fun p => p.1 ∈ vs) := by
  intro p q hm hm'
  obtain ⟨ks, hk, a, o, us, n, e, ho, hc, hd, r⟩ := hp _ hm
  obtain ⟨ks', hk', a', o', us', n', e', ho', hc', hd', r'⟩ := hp _ hm'
  rw [e, e']
  obtain ⟨b, hb⟩ := kat_tot (prog := prog) (w := w) (A := A) (s := s) pt hk hk' r r' 0
  refine ⟨b, PySem.W.kat_lt ho hd ho' hd' ?_⟩
  have hsz : ¬ us.toArray.size < us'.toArray.size := by
    rw [List.size_toArray, List.size_toArray, ← r.length, ← r'.length, hk.len, hk'.len]
    exact Nat.lt_irrefl _
  rw [decide_eq_false hsz]
  simpa using hb
theorem tup_firsts {h : Heap} {b : Bool} {p : List Bool} : ∀ {vs : List Value}, (∀ v ∈ vs, ∃ ks, OfPat (b :: p) ks ∧ IsTupV h v ks) → ∃ fs : List Value, PySem.W.KatTups h vs fs ∧ fs.length = vs.length ∧ ∀ f ∈ fs, if b then ∃ x t, f = Value.str x t else ∃ x t, f = Value.int x t
  | [], _ => ⟨[], PySem.W.KatTups.nil, rfl, fun _ hm => by simp at hm⟩
  | v :: vs, hp => by
    obtain ⟨fs, h1, h2, h3⟩ := tup_firsts (vs := vs) fun v' hm => hp v' (List.mem_cons_of_mem _ hm)
    obtain ⟨ks, hk, a, o, us, n, e, ho, hc, hd, r⟩ := hp v (List.mem_cons_self ..)
    subst e
    cases b with
    | true =>
      obtain ⟨z, r', rfl, hk⟩ := hk.strs
      cases r with
      | cons q t =>
      obtain ⟨tk, rfl⟩ := q
      refine ⟨.str z tk :: fs, PySem.W.KatTups.cons ho hc hd rfl h1, by rw [List.length_cons, List.length_cons, h2], fun f hm => ?_⟩
      rcases List.mem_cons.mp hm with rfl | hm
      · exact ⟨z, tk, rfl⟩
      · exact h3 f hm
    | false =>
      obtain ⟨z, r', rfl, hk⟩ := hk.ints
      cases r with
      | cons q t =>
      obtain ⟨tk, rfl⟩ := q
      refine ⟨.int z tk :: fs, PySem.W.KatTups.cons ho hc hd rfl h1, by rw [List.length_cons, List.length_cons, h2], fun f hm => ?_⟩
      rcases List.mem_cons.mp hm with rfl | hm
      · exact ⟨z, tk, rfl⟩
      · exact h3 f hm
theorem tups_sortable {a : Addr} {vs : List Value} {b : Bool} {p : List Bool} (h0 : 0 < vs.length) (hp : ∀ v ∈ vs, ∃ ks, OfPat (b :: p) ks ∧ IsTupV s.heap v ks) (ha : ∀ o, s.heap.get? a = some o → o.cls ≠ .type "tuple") : Srt.Sortable prog w A s a vs := by
  intro h' keep
  have hp' : ∀ v ∈ vs, ∃ ks, OfPat (b :: p) ks ∧ IsTupV h' v ks := fun v hm => by
    obtain ⟨ks, hk, q⟩ := hp v hm
    exact ⟨ks, hk, q.keeps fun b o e c => keep b o (fun z => by subst z; exact ha o e c) e⟩
  obtain ⟨fs, h1, h2, h3⟩ := tup_firsts hp'
  refine ⟨tuples' true, fun Q E hq => ?_, tup_tot hp'⟩
  cases b with
  | true =>
    refine PySem.W.kat_kind (T := .type "str") h1 (by omega) (fun f hm => ?_) (by rfl) ?_
    · obtain ⟨x, t, rfl⟩ := h3 f hm
      exact PySem.W.Looks.now
    · have e : (Value.type "str" != Value.type "tuple") = true := by first | decide +kernel | rfl | decide
      rw [e]
      exact hq
  | false =>
    refine PySem.W.kat_kind (T := .type "int") h1 (by omega) (fun f hm => ?_) (by rfl) ?_
    · obtain ⟨x, t, rfl⟩ := h3 f hm
      exact PySem.W.Looks.now
    · have e : (Value.type "int" != Value.type "tuple") = true := by first | decide +kernel | rfl | decide
      rw [e]
      exact hq
theorem sorted_tups {l : Addr} {vs : List Value} {b : Bool} {p : List Bool} {Q : Value → Shared → Prop} (hl : s.heap.IsList l vs.toArray) (hz : vs.length ≤ sizeLine) (hp : ∀ v ∈ vs, ∃ ks, OfPat (b :: p) ks ∧ IsTupV s.heap v ks)
    (h : ∀ (h' : Heap) (d : Addr) (out : List Value), out.Perm vs → (∀ b o, s.heap.get? b = some o → h'.get? b = some o) → s.heap.objs.size ≤ d → (∃ n, h'.get? d = some (seqObj "list" out.toArray n)) → Q (.ref d) { s with heap := h' }) :
    wpAny (model prog w) A (call (.builtin "sorted") [.ref l]) Q E s := by
  refine Srt.sorted_any hl hz (fun h2 h₁ a ha k => ?_) fun out ho => ?_
  · refine tups_sortable (b := b) (p := p) (s := { s with heap := h₁ }) (by omega) (fun v hm => ?_) fun o e => ?_
    · obtain ⟨ks, hk, q⟩ := hp v hm
      exact ⟨ks, hk, q.keeps fun b o e _ => (k b o e).2⟩
    · have e' : some o = some (seqObj "list" vs.toArray 0) := e.symm.trans ha
      cases e'
      intro c
      exact absurd (Value.type.inj c) (by decide)
  · exact h _ _ out ho (fun b o e => sortedAll_old e) (Nat.le_succ _) (sortedAll_at s.heap vs out.toArray)
end
/-- sorted(xs), xs a list of tuples of one pattern of ints and texts: a new list of the same in some order -/
def rSortedM (K : PySem.W.Frag) : List V → Hp → VK → Prop := fun vs H Q => ∃ (a : Addr) (ts : List Addr) (b : Bool) (p : List Bool), vs = [V.ref a] ∧ SqL K H a (ts.map V.ref) ∧ (∀ t ∈ ts, ∃ ks, OfPat (b :: p) ks ∧ H t = some (.tup ks)) ∧
  ∀ (ys : List Addr) (d : Addr), ys.Perm ts → H d = none → Q (.ref d) (upd H d (.lst (ys.map V.ref)))
theorem map_backV : ∀ {us : List Value}, (∀ u ∈ us, ∃ a, u = Value.ref a) → ∃ ys : List Addr, us.map backV = ys.map V.ref
  | [], _ => ⟨[], rfl⟩
  | u :: us, h => by
    obtain ⟨a, rfl⟩ := h u List.mem_cons_self
    obtain ⟨ys, e⟩ := map_backV fun v hv => h v (List.mem_cons_of_mem _ hv)
    exact ⟨a :: ys, by rw [List.map_cons, List.map_cons, e] <;> rfl⟩
theorem cr_sortedM {X : Cx} : CallR X (.builtin "sorted") (rSortedM X.K) := by
  intro pins s σ H vs us Q I r h
  obtain ⟨a, ts, b, p, rfl, hs, hx, q⟩ := h
  obtain ⟨its, rv, hl, hz⟩ := I.list hs
  obtain ⟨u, rfl, ru⟩ := vals1 r
  obtain rfl : u = Value.ref a := ru
  obtain ⟨e1, e2⟩ := refs_back rv fun x m => by
    obtain ⟨t, _, e⟩ := List.mem_map.mp m
    exact ⟨t, e.symm⟩
  refine sorted_tups (b := b) (p := p) hl.isList (by rw [← rv.length]; exact hz) (fun v hv => ?_) fun h' d out hp k hd hn => ?_
  · obtain ⟨t, rfl⟩ := e2 v hv
    have hm : V.ref t ∈ ts.map V.ref := by rw [e1]; exact List.mem_map.mpr ⟨_, hv, rfl⟩
    obtain ⟨t', hm', e⟩ := List.mem_map.mp hm
    cases e
    obtain ⟨ks, hk, ht⟩ := hx _ hm'
    obtain ⟨_, its2, r2, o, ho, hc, n, hd⟩ := I.hok _ _ ht
    exact ⟨ks, hk, t, o, its2, n, rfl, ho, hc, hd, r2⟩
  · have h3 : ∀ u ∈ out, ∃ a, u = Value.ref a := fun u hu => e2 u (hp.mem_iff.mp hu)
    obtain ⟨n, hn⟩ := hn
    obtain ⟨ys, ey⟩ := map_backV h3
    have hperm : ys.Perm ts := by
      have z := hp.map backV
      rw [ey, ← e1] at z
      have z2 := z.map (fun v : V => match v with | .ref a => a | _ => 0)
      simpa [List.map_map, Function.comp_def] using z2
    refine ⟨.ref d, upd H d (.lst (ys.map V.ref)), I.laid (t' := s.toks) k hd ⟨?_, out, n, ?_, hn⟩, rfl, q ys d hperm (I.hok.fresh hd)⟩
    · rw [List.length_map, hperm.length_eq]
      have z := rv.length
      rw [List.length_map] at z
      have z2 := hz
      rw [List.length_map] at z2
      exact z2
    · rw [← ey]
      exact vals_back h3
end Kn
set_option Elab.async false
set_option linter.all false
set_option maxRecDepth 100000
set_option maxHeartbeats 4000000
namespace Kn
open PySem PySem.Spec PyProof.Rows L2
/-! ### the readings, one step at a time -/
section
variable {K : PySem.W.Frag} {σ : L2.St} {H : Hp} {Q : VK} {D : Ends} {ta tb tc te tv : TE} {t u ts : TS} {tt tt2 : TT} {tl tl2 : TA} {v x y : V} {R : Bool → Hp → Prop}
theorem r_seq (h : t { D with nx := u D } σ H) : tSeq t u D σ H := h
theorem r_asg {g : TG} (h : te σ H fun x H1 => g x σ H1 D.nx) : tAsg te g D σ H := h
theorem r_name {i : Nat} {Q : L2.St → Hp → Prop} (h : Q (σ.set i (some v)) H) : gName i v σ H Q := h
theorem r_var {i : Nat} (h : σ[i]? = some (some v)) (q : Q v H) : tVar i σ H Q := ⟨v, h, q⟩
theorem r_c (q : Q v H) : tC v σ H Q := q
theorem r_op {r : R2} (h : ta σ H fun x H1 => tb σ H1 fun y H2 => r x y H2 Q) : tOp r ta tb σ H Q := h
theorem r_un {r : V → Hp → VK → Prop} (h : ta σ H fun x H1 => r x H1 Q) : tUn r ta σ H Q := h
theorem r_I0 {g : Int → Int → V} {i j : Int} (q : Q (g i j) H) : rI0 g (.int i) (.int j) H Q := ⟨i, j, rfl, rfl, q⟩
theorem r_I {C : Int → Int → Prop} {g : Int → Int → V} {i j : Int} (c : C i j) (q : Q (g i j) H) : rI C g (.int i) (.int j) H Q := ⟨i, j, rfl, rfl, c, q⟩
theorem r_U {g : Int → V} {i : Int} (q : Q (g i) H) : rU g (.int i) H Q := ⟨i, rfl, q⟩
theorem r_ret (h : te σ H D.rt) : tRet te D σ H := h
theorem r_retN (h : D.rt .non H) : tRetN D σ H := h
theorem r_drop (h : te σ H fun _ H1 => D.nx σ H1) : tDrop te D σ H := h
theorem r_next (h : D.nx σ H) : tNext D σ H := h
theorem r_brk (h : D.bk σ H) : tBreak D σ H := h
theorem r_cons {Q : List V → Hp → Prop} (h : te σ H fun x H1 => tl σ H1 fun xs H2 => Q (x :: xs) H2) : tCons te tl σ H Q := h
theorem r_nil {Q : List V → Hp → Prop} (h : Q [] H) : tNil σ H Q := h
theorem r_cb {r : List V → Hp → VK → Prop} (h : tl σ H fun vs H1 => r vs H1 Q) : tCB r tl σ H Q := h
theorem r_ckw {r : List V → List V → Hp → VK → Prop} (h : tl σ H fun vs H1 => tl2 σ H1 fun zs H2 => r vs zs H2 Q) : tCKw r tl tl2 σ H Q := h
theorem r_test (h : te σ H fun x H' => ∃ k, x = .bl k ∧ R k H') : tTest te σ H R := h
theorem r_B (h : te σ H fun x H' => ∃ k, x = .bl k ∧ R k H') : tB te σ H R := h
theorem r_bl {b : Bool} (h : R b H) : ∃ k, V.bl b = V.bl k ∧ R k H := ⟨b, rfl, h⟩
theorem r_ifS (h : tt σ H fun b H1 => if b = true then t D σ H1 else u D σ H1) : tIfS tt t u D σ H := h
theorem r_if (h : tt σ H fun b H1 => if b = true then ta σ H1 Q else tb σ H1 Q) : tIf tt ta tb σ H Q := h
theorem r_not (h : tt σ H fun b H1 => R (!b) H1) : tNot tt σ H R := h
theorem r_and (h : tt σ H fun b H1 => if b = true then tt2 σ H1 R else R false H1) : tAnd tt tt2 σ H R := h
theorem r_or (h : tt σ H fun b H1 => if b = true then R true H1 else tt2 σ H1 R) : tOr tt tt2 σ H R := h
theorem r_andV (h : ta σ H fun x H1 => ∃ c, x = .bl c ∧ if c = true then tb σ H1 Q else Q (.bl false) H1) : tAndV ta tb σ H Q := h
theorem r_andB {b : Bool} {A B : Prop} (h : if b = true then A else B) : ∃ c, V.bl b = V.bl c ∧ if c = true then A else B := ⟨b, rfl, h⟩
theorem r_notV (h : ta σ H fun x H1 => ∃ c, x = .bl c ∧ Q (.bl (!c)) H1) : tNotV ta σ H Q := h
theorem r_notB {b : Bool} (h : Q (.bl (!b)) H) : ∃ c, V.bl b = V.bl c ∧ Q (.bl (!c)) H := ⟨b, rfl, h⟩
theorem r_call {sp : Sp} {dvs : List V} {E : XK} (h : tl σ H fun vs H1 => sp (vs ++ dvs) H1 Q E) : tCall sp dvs E tl σ H Q := h
theorem r_make {C : Addr} {sp : Sp} {dvs : List V} {E : XK} (h : tl σ H fun vs H1 => ∀ x dx, H1 x = none → H1 dx = none → dx ≠ x → sp (.ref x :: (vs ++ dvs)) (upd (upd H1 dx (.own x)) x (.ins C dx [])) (fun v H2 => v = .non ∧ Q (.ref x) H2) E) :
    tMake C sp dvs E tl σ H Q := h
theorem r_meth {C : Addr} {m : Str} {sp : Sp} {dvs : List V} {E : XK} (h : ta σ H fun x H1 => ∃ a dx fs, x = .ref a ∧ H1 a = some (.ins C dx fs) ∧ fs.lookup m = none ∧ tl σ H1 fun vs H2 => sp (x :: (vs ++ dvs)) H2 Q E) :
    tMeth C m sp dvs E ta tl σ H Q := h
theorem r_fld {f : Str} (h : ta σ H fun x H1 => ∃ a C dx fs v, x = .ref a ∧ H1 a = some (.ins C dx fs) ∧ Cls K C ∧ NoAttr K C f ∧ fs.lookup f = some v ∧ Q v H1) : tFld K ta f σ H Q := h
theorem r_tup (h : tl σ H fun xs H1 => xs.length ≤ sizeLine ∧ ∀ p, H1 p = none → Q (.ref p) (upd H1 p (.tup xs))) : tTup tl σ H Q := h
theorem r_lst (h : tl σ H fun xs H1 => xs.length ≤ sizeLine ∧ ∀ p, H1 p = none → Q (.ref p) (upd H1 p (.lst xs))) : tLst tl σ H Q := h
theorem r_sub {to ti : TE} {s : TSet} {Q : L2.St → Hp → Prop} (h : to σ H fun o H1 => ti σ H1 fun i H2 => s o i v H2 fun H3 => Q σ H3) : gSub to ti s v σ H Q := h
theorem r_sl {r : V → Option Int → Option Int → Hp → VK → Prop} {lo hi : TO} (h : te σ H fun x H1 => lo σ H1 fun l H2 => hi σ H2 fun u H3 => r x l u H3 Q) : tSl r te lo hi σ H Q := h
theorem r_nop {Q : Option Int → Hp → Prop} (h : Q none H) : tNoPart σ H Q := h
theorem r_part {Q : Option Int → Hp → Prop} (h : te σ H fun x H1 => ∃ i, x = .int i ∧ Q (some i) H1) : tPart te σ H Q := h
theorem r_pti {i : Int} {Q : Option Int → Hp → Prop} (h : Q (some i) H) : ∃ j, V.int i = V.int j ∧ Q (some j) H := ⟨i, rfl, h⟩
theorem r_bm {T : String} {r : V → List V → Hp → VK → Prop} (h : ta σ H fun x H1 => tyV K T x H1 ∧ tl σ H1 fun xs H2 => r x xs H2 Q) : tBM K T r ta tl σ H Q := h
theorem r_m1 {r : V → List V → Hp → VK → Prop} (h : ta σ H fun x H1 => (∃ a, x = .str a) ∧ te σ H1 fun y H2 => r x [y] H2 Q) : tM1 r ta te σ H Q := h
theorem r_m1s {z : Str} {A : Prop} (h : A) : (∃ a, V.str z = V.str a) ∧ A := ⟨⟨z, rfl⟩, h⟩
theorem r_dget {td ty : TE} (h : td σ H fun x H1 => ty σ H1 fun y H2 => ∃ a v, x = .ref a ∧ DGet H2 a y (some v) ∧ Q v H2) : tDGet td ty σ H Q := h
theorem r_eq {i j : Int} (q : Q (.bl (decide (i = j))) H) : rEq (.int i) (.int j) H Q := ⟨rfl, by
  have e : decide (V.int i = V.int j) = decide (i = j) := by
    by_cases h : i = j
    · rw [decide_eq_true h, h]; exact decide_eq_true rfl
    · rw [decide_eq_false h]; exact decide_eq_false fun z => h (V.int.inj z)
  rw [e]; exact q⟩
theorem r_ne {i j : Int} (q : Q (.bl (!decide (i = j))) H) : rNe (.int i) (.int j) H Q := ⟨rfl, by
  have e : decide (V.int i = V.int j) = decide (i = j) := by
    by_cases h : i = j
    · rw [decide_eq_true h, h]; exact decide_eq_true rfl
    · rw [decide_eq_false h]; exact decide_eq_false fun z => h (V.int.inj z)
  rw [e]; exact q⟩
theorem r_eqS {i j : Str} (q : Q (.bl (decide (i = j))) H) : rEq (.str i) (.str j) H Q := ⟨rfl, by
  have e : decide (V.str i = V.str j) = decide (i = j) := by
    by_cases h : i = j
    · rw [decide_eq_true h, h]; exact decide_eq_true rfl
    · rw [decide_eq_false h]; exact decide_eq_false fun z => h (V.str.inj z)
  rw [e]; exact q⟩
theorem r_neS {i j : Str} (q : Q (.bl (!decide (i = j))) H) : rNe (.str i) (.str j) H Q := ⟨rfl, by
  have e : decide (V.str i = V.str j) = decide (i = j) := by
    by_cases h : i = j
    · rw [decide_eq_true h, h]; exact decide_eq_true rfl
    · rw [decide_eq_false h]; exact decide_eq_false fun z => h (V.str.inj z)
  rw [e]; exact q⟩
theorem iteD {c A B : Prop} [Decidable c] (h1 : c → A) (h2 : ¬ c → B) : if decide c = true then A else B := by
  by_cases h : c
  · rw [decide_eq_true h]; exact iteT (h1 h)
  · rw [decide_eq_false h]; exact iteF (h2 h)
theorem iteN {c A B : Prop} [Decidable c] (h1 : ¬ c → A) (h2 : c → B) : if (!decide c) = true then A else B := by
  by_cases h : c
  · rw [decide_eq_true h]; exact iteF (h2 h)
  · rw [decide_eq_false h]; exact iteT (h1 h)
/-- a[i] of a list, a tuple, a text -/
theorem r_ixL {p : Addr} {xs : List V} {i : Int} (h : H p = some (.lst xs)) (j : Nat) (e : i = (j : Int)) (hj : xs[j]? = some v) (q : Q v H) : rIxL K (.ref p) (.int i) H Q := by
  subst e
  exact ⟨p, xs, _, v, rfl, rfl, SqL.of h, atI_nat hj, q⟩
theorem r_ixT {p : Addr} {xs : List V} {i : Int} (h : H p = some (.tup xs)) (j : Nat) (e : i = (j : Int)) (hj : xs[j]? = some v) (q : Q v H) : rIxT K (.ref p) (.int i) H Q := by
  subst e
  exact ⟨p, xs, _, v, rfl, rfl, SqT.of h, atI_nat hj, q⟩
theorem r_ixS {z : Str} {c : Nat} {i : Int} (hz : z.length ≤ sizeLine) (j : Nat) (e : i = (j : Int)) (hj : z.cps.toList[j]? = some c) (q : Q (.str ⟨#[c]⟩) H) : rIxS (.str z) (.int i) H Q := by
  subst e
  exact ⟨z, _, c, rfl, rfl, hz, atI_nat hj, q⟩
theorem r_setL {p : Addr} {xs : List V} {i : Int} {Q : Hp → Prop} (h : H p = some (.lst xs)) (j : Nat) (e : i = (j : Int)) (hj : j < xs.length) (q : Q (upd H p (.lst (xs.set j v)))) : rSetL (.ref p) (.int i) v H Q := by
  subst e
  refine ⟨p, xs, _, j, rfl, rfl, h, ?_, q⟩
  unfold ixN
  rw [if_pos (by omega), if_pos (by omega)]; simp
end
end Kn
set_option Elab.async false
set_option linter.all false
set_option maxRecDepth 100000
set_option maxHeartbeats 4000000
namespace Kn
open PySem PySem.Spec PyProof.Rows L2
/-! ### heaps: what a draw changes is the pool alone -/
def isPool : HO → Bool
  | .lst [.ref _, .int _, .int _, .int _] => true
  | _ => false
structure Kept (H H' : Hp) : Prop where
  keep : ∀ b o, isPool o = false → H b = some o → H' b = some o
  dom : ∀ b, H' b = none → H b = none
structure Pool (p q : Addr) (cs : List Int) (H : Hp) : Prop where
  ex : ∃ at_ dg st : Int, H p = some (.lst [.ref q, .int at_, .int dg, .int st]) ∧ 0 ≤ at_ ∧ 0 ≤ dg ∧ 0 ≤ st ∧ st < 2147483647
  cells : H q = some (.lst (cs.map V.int))
  nn : ∀ c ∈ cs, 0 ≤ c
theorem isPool_ints (cs : List Int) : isPool (.lst (cs.map V.int)) = false := by
  cases cs <;> rfl
theorem isPool_strs {α : Type} (f : α → Str) (cs : List α) : isPool (.lst (cs.map fun x => V.str (f x))) = false := by
  cases cs <;> rfl
theorem isPool_refs {α : Type} (f : α → Addr) (cs : List α) : isPool (.lst (cs.map fun x => V.ref (f x))) = false := by
  rcases cs with _ | ⟨a, _ | ⟨b, r⟩⟩ <;> rfl
theorem Kept.refl (H : Hp) : Kept H H := ⟨fun _ _ _ h => h, fun _ h => h⟩
theorem Kept.trans {H H1 H2 : Hp} (a : Kept H H1) (b : Kept H1 H2) : Kept H H2 := ⟨fun c o n h => b.keep c o n (a.keep c o n h), fun c h => a.dom c (b.dom c h)⟩
theorem Same.kept {H H' : Hp} (s : Same H H') : Kept H H' := ⟨fun c o _ h => s c o h, fun c h => s.free h⟩
theorem same_new {H : Hp} {a : Addr} {o : HO} (h : H a = none) : Same H (upd H a o) := fun b u e => by
  rw [upd_ne (ne_of_none e h)]
  exact e
/-- an object that H does not know may change -/
theorem Same.mut {H H' : Hp} {a : Addr} {o : HO} (e : Same H H') (h : H a = none) : Same H (upd H' a o) := fun b u q => by
  rw [upd_ne (ne_of_none q h)]
  exact e b u q
theorem Kept.mut {H H' : Hp} {a : Addr} {o : HO} (e : Kept H H') (h : H a = none) : Kept H (upd H' a o) := by
  refine ⟨fun b u n q => ?_, fun b q => ?_⟩
  · rw [upd_ne (ne_of_none q h)]
    exact e.keep b u n q
  · by_cases z : b = a
    · rw [z, upd_same] at q; cases q
    · rw [upd_ne z] at q; exact e.dom b q
theorem Kept.pool {H : Hp} {p : Addr} {q q' : Addr} {x y z x' y' z' : Int} (h : H p = some (.lst [.ref q, .int x, .int y, .int z])) : Kept H (upd H p (.lst [.ref q', .int x', .int y', .int z'])) := by
  refine ⟨fun b u n e => ?_, fun b e => ?_⟩
  · have ne : b ≠ p := fun z => by
      rw [z, h] at e
      cases e
      cases n
    rw [upd_ne ne]
    exact e
  · by_cases z : b = p
    · rw [z, upd_same] at e; cases e
    · rw [upd_ne z] at e; exact e
theorem Pool.same {p q : Addr} {cs : List Int} {H H' : Hp} (P : Pool p q cs H) (s : Same H H') : Pool p q cs H' := by
  obtain ⟨⟨a, b, c, h, r⟩, h2, h3⟩ := P
  exact ⟨⟨a, b, c, s _ _ h, r⟩, s _ _ h2, h3⟩
theorem Pool.new {p q a : Addr} {o : HO} {cs : List Int} {H : Hp} (P : Pool p q cs H) (h : H a = none) : Pool p q cs (upd H a o) := P.same (same_new h)
theorem Pool.mut {p q a : Addr} {o u : HO} {cs : List Int} {H : Hp} (P : Pool p q cs H) (h : H a = some u) (n : isPool u = false) (nq : a ≠ q) : Pool p q cs (upd H a o) := by
  obtain ⟨⟨x, y, z, h1, r⟩, h2, h3⟩ := P
  have np : p ≠ a := fun e => by
    rw [e, h] at h1
    cases h1
    cases n
  exact ⟨⟨x, y, z, by rw [upd_ne np]; exact h1, r⟩, by rw [upd_ne (Ne.symm nq)]; exact h2, h3⟩
end Kn
set_option Elab.async false
set_option linter.all false
set_option maxRecDepth 100000
set_option maxHeartbeats 4000000
namespace Kn
open PySem PySem.Spec PyProof.Rows L2
/-! ### loops and comprehensions -/
theorem r_for {wi : TI} {g : TG} {tb : TS} {D : Ends} {σ : L2.St} {H : Hp} (h : wi σ H fun J H1 => ∃ W : Nat → Nat → L2.St → Hp → Prop, (∃ m, W 0 m σ H1) ∧ ∀ i m σ H, W i m σ H →
  (J.stop i H ∧ D.nx σ H) ∨ (J.go i H ∧ ∃ N : L2.St → Hp → Prop, (∀ σ' H', N σ' H' → ∃ m', m' < m ∧ W (i + 1) m' σ' H') ∧ ∀ x H', J.yld i H x H' → g x σ H' fun σ2 H2 => tb { D with nx := N, ct := N, bk := D.nx } σ2 H2)) : tFor wi g tb D σ H := h
theorem r_iStr {te : TE} {σ : L2.St} {H : Hp} {R : It → Hp → Prop} (h : te σ H fun v H1 => ∃ x, v = .str x ∧ R (Its x) H1) : iStr te σ H R := h
theorem for_w {J : It} {n : Nat} {G : Hp → Prop} {Y : Nat → Hp → V → Hp → Prop} (w : Walk J n G Y) {g : TG} {tb : TS} {Dn : L2.St → Hp → Prop} {rt : VK} {σ : L2.St} {H : Hp} (Pv : Nat → L2.St → Hp → Prop) (h0 : Pv 0 σ H) (hG : ∀ i σ H, i ≤ n → Pv i σ H → G H)
    (hs : ∀ i x σ H H', i < n → Pv i σ H → Y i H x H' → g x σ H' fun σ2 H2 => tb { nx := Pv (i + 1), rt := rt, bk := Dn, ct := Pv (i + 1) } σ2 H2) (hd : ∀ σ H, Pv n σ H → Dn σ H) :
    ∃ W : Nat → Nat → L2.St → Hp → Prop, (∃ m, W 0 m σ H) ∧ ∀ i m σ H, W i m σ H →
      (J.stop i H ∧ Dn σ H) ∨ (J.go i H ∧ ∃ N : L2.St → Hp → Prop, (∀ σ' H', N σ' H' → ∃ m', m' < m ∧ W (i + 1) m' σ' H') ∧ ∀ x H', J.yld i H x H' → g x σ H' fun σ2 H2 => tb { nx := N, rt := rt, bk := Dn, ct := N } σ2 H2) :=
  for_it (D := { nx := Dn, rt := rt }) w Pv h0 hG hs hd
section
variable {K : PySem.W.Frag} {σ : L2.St} {H : Hp} {Q : VK} {R : It → Hp → Prop} {te : TE} {tl : TA} {RB : Bool → Hp → Prop}
theorem r_lc {wi : TI} {g : TG} {tt : TT} {vs : List Nat} (h : wi σ H fun J H1 => ∀ D, H1 D = none → ∃ W : Nat → Nat → Hp → Prop, (∃ m, W 0 m (upd H1 D (.lst []))) ∧ ∀ i m H, W i m H →
  (J.stop i H ∧ Q (.ref D) H) ∨ (J.go i H ∧ ∃ Nx : Hp → Prop, (∀ H', Nx H' → ∃ m', m' < m ∧ W (i + 1) m' H') ∧ ∀ x H', J.yld i H x H' → g x (wipe σ vs) H' fun σ2 H2 => wipe σ2 vs = wipe σ vs ∧ tt σ2 H2 fun b H3 =>
    if b = true then te σ2 H3 fun y H4 => ∃ acc, H4 D = some (.lst acc) ∧ acc.length < sizeLine ∧ Nx (upd H4 D (.lst (acc ++ [y]))) else Nx H3)) : tLc wi g tt te vs σ H Q := h
theorem r_yes (h : RB true H) : tYes σ H RB := h
theorem r_iList (h : te σ H fun x H1 => ∃ a, x = .ref a ∧ (∃ xs, SqL K H1 a xs) ∧ R (Itl K a) H1) : iList K te σ H R := h
theorem r_iTup (h : te σ H fun x H1 => ∃ a, x = .ref a ∧ (∃ xs, SqT K H1 a xs) ∧ R (Itt K a) H1) : iTup K te σ H R := h
theorem r_iSq (h : te σ H fun x H1 => ∃ a b xs, x = .ref a ∧ H1 a = some (sq b xs) ∧ Walks xs.length (fun H => H a = some (sq b xs)) (YAt xs) R H1) : iSq te σ H R := h
theorem r_iRng (h : tl σ H fun vs H1 => ∃ j : Int, vs = [.int j] ∧ -(2 ^ 62) ≤ j ∧ j < 2 ^ 62 ∧ R (Itr 0 j.toNat) H1) : iRng1 tl σ H R := h
theorem r_iEnumQ (h : tl σ H fun vs H1 => ∃ a b xs, vs = [.ref a] ∧ H1 a = some (sq b xs) ∧ Walks xs.length (fun H => H a = some (sq b xs)) (YPair (fun i => some (.int (i : Nat))) (fun i => xs[i]?)) R H1) : iEnumQ tl σ H R := h
theorem r_iEnumS (h : tl σ H fun vs H1 => ∃ z, vs = [.str z] ∧ Walks z.cps.size (fun _ => True) (YPair (fun i => some (.int (i : Nat))) (fun i => z.cps[i]?.map fun c => .str ⟨#[c]⟩)) R H1) : iEnumS tl σ H R := h
theorem r_iEnum (h : tl σ H fun vs H1 => ∃ a xs, vs = [.ref a] ∧ SqL K H1 a xs ∧ R (Ite K a) H1) : iEnum K tl σ H R := h
theorem r_iZip (h : tl σ H fun vs H1 => ∃ a b xs ys, vs = [.ref a, .ref b] ∧ SqL K H1 a xs ∧ SqL K H1 b ys ∧ R (Itz K a b) H1) : iZip K tl σ H R := h
end
section
variable {K : PySem.W.Frag} {σ : L2.St} {H : Hp} {Q : L2.St → Hp → Prop} {t : TG} {u : TGs} {v : V} {r xs : List V} {a : Addr} {n : Nat}
theorem r_gtup {tt : TGs} (h : H a = some (.tup xs)) (hl : xs.length = n) (q : tt xs σ H Q) : gTup K n tt (.ref a) σ H Q := ⟨a, xs, rfl, SqT.of h, hl, q⟩
theorem r_gcons (q : t v σ H fun σ' H' => u r σ' H' Q) : gCons t u (v :: r) σ H Q := ⟨v, r, rfl, q⟩
theorem r_gnil (q : Q σ H) : gNil [] σ H Q := ⟨rfl, q⟩
end
theorem ySame_at {xs : List V} : ∀ i H x H', YAt xs i H x H' → Same H H' := fun _ _ _ _ y => by rw [y.1]; exact Same.refl _
theorem ySame_pair {f g : Nat → Option V} : ∀ i H x H', YPair f g i H x H' → Same H H' := fun _ _ _ _ ⟨_, _, _, _, hn, e, _⟩ => by rw [e]; exact same_new hn
theorem ySame_fn {f : Nat → V} : ∀ i H x H', YFn f i H x H' → Same H H' := fun _ _ _ _ y => by rw [y.1]; exact Same.refl _
theorem ySame_str {z : Str} : ∀ (i : Nat) (H : Hp) (x : V) (H' : Hp), (H' = H ∧ ∃ c, z.cps[i]? = some c ∧ x = .str ⟨#[c]⟩) → Same H H' := fun _ _ _ _ y => by rw [y.1]; exact Same.refl _
/-- a comprehension that changes nothing but its own new list: the f i of those turns that p keeps -/
theorem lc_pure {J : It} {n : Nat} {G : Hp → Prop} {Y : Nat → Hp → V → Hp → Prop} (w : Walk J n G Y) (hY : ∀ i H x H', Y i H x H' → Same H H') {g : TG} {tt : TT} {te : TE} {vs : List Nat} {σ : L2.St} {H1 : Hp} {D : Addr} {Qd : Hp → Prop} (hn : n < 16777216) (hD : H1 D = none)
    (p : Nat → Bool) (f : Nat → V) (hG : ∀ H, Same H1 H → G H)
    (hs : ∀ i x Hc H' (R : VK) (E : Hp → Prop), i < n → Same H1 Hc → Y i Hc x H' → (p i = true → ∀ H4, Same H' H4 → R (f i) H4) → (p i = false → ∀ H4, Same H' H4 → E H4) →
      g x (wipe σ vs) H' fun σ2 H2 => wipe σ2 vs = wipe σ vs ∧ tt σ2 H2 fun b H3 => if b = true then te σ2 H3 R else E H3)
    (hd : ∀ H', Same H1 H' → H' D = some (.lst (((List.range n).filter p).map f)) → Qd H') :
    ∃ W : Nat → Nat → Hp → Prop, (∃ m, W 0 m (upd H1 D (.lst []))) ∧ ∀ i m H, W i m H →
      (J.stop i H ∧ Qd H) ∨ (J.go i H ∧ ∃ Nx : Hp → Prop, (∀ H', Nx H' → ∃ m', m' < m ∧ W (i + 1) m' H') ∧ ∀ x H', J.yld i H x H' → g x (wipe σ vs) H' fun σ2 H2 => wipe σ2 vs = wipe σ vs ∧ tt σ2 H2 fun b H3 =>
        if b = true then te σ2 H3 fun y H4 => ∃ acc, H4 D = some (.lst acc) ∧ acc.length < sizeLine ∧ Nx (upd H4 D (.lst (acc ++ [y]))) else Nx H3) := by
  refine lc_it w (fun i H => Same H1 H ∧ H D = some (.lst (((List.range i).filter p).map f))) ⟨same_new hD, upd_same⟩ (fun i H _ q => hG H q.1) ?_ fun H q => hd H q.1 q.2
  rintro i x Hc H' hi ⟨s, hl⟩ y
  refine hs i x Hc H' _ _ hi s y (fun hp H4 s4 => ?_) fun hp H4 s4 => ?_
  · refine ⟨_, s4 _ _ (hY _ _ _ _ y _ _ hl), ?_, ?_, ?_⟩
    · have z : (((List.range i).filter p).map f).length ≤ i := by
        rw [List.length_map]
        have := List.length_filter_le p (List.range i)
        rwa [List.length_range] at this
      have e : sizeLine = 16777216 := sizeLine_eq
      omega
    · exact Same.mut ((s.trans (hY _ _ _ _ y)).trans s4) hD
    · rw [upd_same, List.range_succ, List.filter_append, List.map_append]
      simp [hp]
  · refine ⟨(s.trans (hY _ _ _ _ y)).trans s4, ?_⟩
    rw [s4 _ _ (hY _ _ _ _ y _ _ hl), List.range_succ, List.filter_append]
    simp [hp]
/-- without a test -/
theorem lc_all {J : It} {n : Nat} {G : Hp → Prop} {Y : Nat → Hp → V → Hp → Prop} (w : Walk J n G Y) (hY : ∀ i H x H', Y i H x H' → Same H H') {g : TG} {tt : TT} {te : TE} {vs : List Nat} {σ : L2.St} {H1 : Hp} {D : Addr} {Qd : Hp → Prop} (hn : n < 16777216) (hD : H1 D = none)
    (f : Nat → V) (hG : ∀ H, Same H1 H → G H)
    (hs : ∀ i x Hc H' (R : VK) (E : Hp → Prop), i < n → Same H1 Hc → Y i Hc x H' → (∀ H4, Same H' H4 → R (f i) H4) →
      g x (wipe σ vs) H' fun σ2 H2 => wipe σ2 vs = wipe σ vs ∧ tt σ2 H2 fun b H3 => if b = true then te σ2 H3 R else E H3)
    (hd : ∀ H', Same H1 H' → H' D = some (.lst ((List.range n).map f)) → Qd H') :
    ∃ W : Nat → Nat → Hp → Prop, (∃ m, W 0 m (upd H1 D (.lst []))) ∧ ∀ i m H, W i m H →
      (J.stop i H ∧ Qd H) ∨ (J.go i H ∧ ∃ Nx : Hp → Prop, (∀ H', Nx H' → ∃ m', m' < m ∧ W (i + 1) m' H') ∧ ∀ x H', J.yld i H x H' → g x (wipe σ vs) H' fun σ2 H2 => wipe σ2 vs = wipe σ vs ∧ tt σ2 H2 fun b H3 =>
        if b = true then te σ2 H3 fun y H4 => ∃ acc, H4 D = some (.lst acc) ∧ acc.length < sizeLine ∧ Nx (upd H4 D (.lst (acc ++ [y]))) else Nx H3) := by
  refine lc_pure w hY hn hD (fun _ => true) f hG (fun i x Hc H' R E hi s y h1 _ => hs i x Hc H' R E hi s y (h1 rfl)) fun H' s e => hd H' s ?_
  rw [e, List.filter_eq_self.mpr fun _ _ => rfl]
end Kn
set_option Elab.async false
set_option linter.all false
set_option maxRecDepth 100000
set_option maxHeartbeats 4000000
namespace Kn
open PySem PySem.Spec PyProof.Rows L2
/-! ### the rules with the written part named -/
section
variable {X : Cx} {K : PySem.W.Frag} {a b e o : Expr} {es : List Expr} {ta tb te tl to : TE} {t : TA} {pos cpos apos : Pos} {f : Str} {tg : Expr}
/-- a value's truth -/
def tTr (K : PySem.W.Frag) (ta : TE) : TT := fun σ H Q => ta σ H fun x H' => ∃ k, TruV K x H' k ∧ Q k H'
theorem r_tr {σ : L2.St} {H : Hp} {R : Bool → Hp → Prop} (h : ta σ H fun x H' => ∃ k, TruV K x H' k ∧ R k H') : tTr K ta σ H R := h
/-- a list or a tuple, tracked or not -/
def SqQ (K : PySem.W.Frag) (b : Bool) (H : Hp) (a : Addr) (xs : List V) : Prop := if b then SqT K H a xs else SqL K H a xs
theorem sqQ_of {H : Hp} {p : Addr} {b : Bool} {xs : List V} (h : H p = some (sq b xs)) : SqQ K b H p xs := by
  cases b with
  | false => exact SqL.of h
  | true => exact SqT.of h
theorem Same.sqQ {H H' : Hp} {p : Addr} {b : Bool} {xs : List V} (s : Same H H') (h : SqQ K b H p xs) : SqQ K b H' p xs := by
  cases b with
  | false => exact s.seq h
  | true =>
    rcases h with (h | ⟨o, h⟩) | h
    · exact .inl (.inl (s _ _ h))
    · exact .inl (.inr ⟨o, s _ _ h⟩)
    · exact .inr h
def iSqK (K : PySem.W.Frag) (tl : TE) : TI := fun σ H R => tl σ H fun x H1 => ∃ a b xs, x = .ref a ∧ SqQ K b H1 a xs ∧ Walks xs.length (fun H => SqQ K b H a xs) (YAt xs) R H1
theorem r_iSqK {σ : L2.St} {H : Hp} {R : It → Hp → Prop} (h : te σ H fun x H1 => ∃ a b xs, x = .ref a ∧ SqQ K b H1 a xs ∧ Walks xs.length (fun H => SqQ K b H a xs) (YAt xs) R H1) : iSqK K te σ H R := h
theorem pi_seqK (K : PySem.W.Frag) (hl : PE X e tl) (hK : X.K = K := by rfl) : PI X tg e (iSqK K tl) := by
  subst hK
  refine ⟨fun pins s σ H R I h => ?_⟩
  refine thn (hl.run pins s σ H _ I h) fun v s1 ⟨x, H1, I1, r1, q1⟩ => ?_
  obtain ⟨a, b, xs, e, hq, q⟩ := q1
  subst e
  cases r1
  cases b with
  | false =>
    obtain ⟨its, rv, p, hz⟩ := I1.list hq
    refine wpAny_pyIter_list p.isList ?_
    refine ⟨s1.heap.objs.size, [s1.heap.objs.size], _, _, H1, rfl, I1.kept (t' := s1.toks) fun b o e => Heap.get?_push_of_some _ e, turn_list a _, ⟨_, Heap.get?_push_size _ rfl, rfl, rfl⟩, fun b hb => ?_, q _ walk_list⟩
    have e : b = s1.heap.objs.size := by simpa using hb
    subst e
    exact I1.fpOk (Nat.le_refl _) (I1.hok.fresh (Nat.le_refl _))
  | true =>
    obtain ⟨its, rv, p, hz⟩ := I1.tuple hq
    refine wpAny_pyIter_tuple (show s1.heap.IsTuple a its.toArray from p) ?_
    refine ⟨s1.heap.objs.size, [s1.heap.objs.size], _, _, H1, rfl, I1.kept (t' := s1.toks) fun b o e => Heap.get?_push_of_some _ e, turn_tuple a _, ⟨_, Heap.get?_push_size _ rfl, rfl, rfl⟩, fun b hb => ?_, q _ walk_tup⟩
    have e : b = s1.heap.objs.size := by simpa using hb
    subst e
    exact I1.fpOk (Nat.le_refl _) (I1.hok.fresh (Nat.le_refl _))
theorem pt_truthK (K : PySem.W.Frag) (ha : PE X a ta) (he : ∀ whole, isTrue a X.env whole = (do let v ← whole; standAt a.pos; holding [v] (truthy v)) := by intro _; rfl) (hK : X.K = K := by rfl) :
    PT X a (tTr K ta) := by subst hK; exact pt_truth ha he
theorem pe_fldK (K : PySem.W.Frag) (he : PE X e ta) (hb : attributeBase e f X.env (eval e X.env) = eval e X.env := by rfl) (hK : X.K = K := by rfl) : PE X (.Attribute e f pos) (tFld K ta f) := by subst hK; exact pe_fld he hb
theorem ps_fldK {value : Expr} {tv : TE} {pos' : Pos} (K : PySem.W.Frag) (ha : PE X o ta) (hv : PE X value tv) (hs : swapsWith value (some (.Attribute o f pos')) pos.line X.env = pure false := by rfl) (hK : X.K = K := by rfl) : PS X (.Assign [.Attribute o f pos'] value pos) (sFld K ta tv f) := by subst hK; exact ps_fld ha hv hs
theorem ixL (K : PySem.W.Frag) (hK : X.K = K := by rfl) : IxR X (rIxL K) := by subst hK; exact ix_list
theorem ixT (K : PySem.W.Frag) (hK : X.K = K := by rfl) : IxR X (rIxT K) := by subst hK; exact ix_tup
/-- xs[i] of a list or a tuple -/
def rIxQ (K : PySem.W.Frag) : R2 := fun x y H Q => rIxL K x y H Q ∨ rIxT K x y H Q
theorem IxR.or' {r r' : R2} (h : IxR X r) (h' : IxR X r') : IxR X (fun x y H Q => r x y H Q ∨ r' x y H Q) := by
  intro a b pins s σ H x y v u Q I rx ry q hs
  rcases q with q | q
  · exact h a b pins s σ H x y v u Q I rx ry q hs
  · exact h' a b pins s σ H x y v u Q I rx ry q hs
theorem ixQ (K : PySem.W.Frag) (hK : X.K = K := by rfl) : IxR X (rIxQ K) := IxR.or' (ixL K hK) (ixT K hK)
theorem slL (K : PySem.W.Frag) (hK : X.K = K := by rfl) : SlR X (rSlL K) := by subst hK; exact sl_list
theorem inQ (K : PySem.W.Frag) (hK : X.K = K := by rfl) : OpR X (compareOp .In) (rIn K false) := by subst hK; exact op_in_seq
theorem notInQ (K : PySem.W.Frag) (hK : X.K = K := by rfl) : OpR X (compareOp .NotIn) (rIn K true) := by subst hK; exact op_notIn_seq
theorem notInDK (K : PySem.W.Frag) (hu : X.A.units + 65 < cLine) (hK : X.K = K := by rfl) : OpR X (compareOp .NotIn) (rNotInD K) := by subst hK; exact op_notInD hu
abbrev rLenK (K : PySem.W.Frag) : List V → Hp → VK → Prop := fun xs H Q => ∃ x n, xs = [x] ∧ LenV K x H n ∧ Q (.int (n : Nat)) H
theorem lenK (K : PySem.W.Frag) (hK : X.K = K := by rfl) : CallR X (.builtin "len") (rLenK K) := by subst hK; exact call_len
theorem allK (K : PySem.W.Frag) (hc : X.calm = true := by rfl) (hK : X.K = K := by rfl) : CallR X (.builtin "all") (rAll K) := by subst hK; exact cr_all hc
abbrev rListK (K : PySem.W.Frag) : List V → Hp → VK → Prop := fun xs H Q => ∃ p ys, xs = [.ref p] ∧ (SqL K H p ys ∨ SqT K H p ys) ∧ ∀ l, H l = none → Q (.ref l) (upd H l (.lst ys))
theorem listK (K : PySem.W.Frag) (hK : X.K = K := by rfl) : CallR X (.type "list") (rListK K) := by subst hK; exact call_list_of
abbrev rTupK (K : PySem.W.Frag) : List V → Hp → VK → Prop := fun xs H Q => ∃ p ys, xs = [.ref p] ∧ ((SqL K H p ys ∧ ∀ l, H l = none → Q (.ref l) (upd H l (.tup ys))) ∨ (SqT K H p ys ∧ Q (.ref p) H))
theorem tupK (K : PySem.W.Frag) (hK : X.K = K := by rfl) : CallR X (.type "tuple") (rTupK K) := by subst hK; exact call_tuple_of
theorem sortedSK (K : PySem.W.Frag) (hK : X.K = K := by rfl) : CallR X (.builtin "sorted") (rSortedS K) := by subst hK; exact cr_sortedS
theorem sortedMK (K : PySem.W.Frag) (hK : X.K = K := by rfl) : CallR X (.builtin "sorted") (rSortedM K) := by subst hK; exact cr_sortedM
theorem sortedRevK {b : Bool} (K : PySem.W.Frag) (hK : X.K = K := by rfl) : CallRK X (.builtin "sorted") [Str.ofString "reverse"] (rSortedKw K b [.bl b]) := by subst hK; exact cr_sortedRev
theorem isiK (K : PySem.W.Frag) (hK : X.K = K := by rfl) : CallR X (.builtin "isinstance") (rIsi K) := by subst hK; exact call_isi
abbrev rJoinK (K : PySem.W.Frag) : V → List V → Hp → VK → Prop := fun x xs H Q => ∃ a p, ∃ ys : List Str, x = .str a ∧ xs = [.ref p] ∧ (SqL K H p (ys.map V.str) ∨ SqT K H p (ys.map V.str)) ∧ (ys.map (·.length)).sum + ys.length * a.length ≤ 16777216 ∧ Q (.str (Txt.join a ys)) H
theorem joinK (K : PySem.W.Frag) (hK : X.K = K := by rfl) : MtR X "str.join" (rJoinK K) := by subst hK; exact mt_join
theorem extendTK (K : PySem.W.Frag) (hK : X.K = K := by rfl) : MtM X "list.extend" (rExtendT K) := by subst hK; exact mt_extendT
theorem pe_bmK {T : String} {id : String} {name : Str} {r : V → List V → Hp → VK → Prop} (K : PySem.W.Frag) (pa : PlainAttrs T) (slot : Slot T name id) (hty : typeOf (.builtin id) = pure (.type "method_descriptor")) (hm : MtR X id r) (ho : PE X o to) (ha : PA X (e :: es) t)
    (hbase : attributeBase o name X.env (eval o X.env) = eval o X.env := by rfl)
    (hfew : ((backTo cpos (starEach (e :: es) X.env)).all (fun x => !x.1) && (backToKw cpos (keywordEach [] X.env)).all (fun x => x.1.isSome)
      && decide ((e :: es).length + ([] : List Keyword).length + (if ([] : List Keyword).isEmpty then 0 else 1) < 30)) = true := by rfl)
    (hline : (apos.endLine == cpos.line) = true := by rfl) (hs : starEach (e :: es) X.env = (false, eval e X.env) :: starEach es X.env := by rfl) (hplain : (backTo cpos (starEach es X.env)).any (·.1) = false := by rfl) (hK : X.K = K := by rfl) :
    PE X (.Call (.Attribute o name apos) (e :: es) [] cpos) (tBM K T r to t) := by subst hK; exact pe_bm pa slot hty hm ho ha hbase hfew hline hs hplain
theorem pi_listK (K : PySem.W.Frag) (hl : PE X e tl) (hK : X.K = K := by rfl) : PI X tg e (iList K tl) := by subst hK; exact pi_list hl
theorem pi_tupK (K : PySem.W.Frag) (hl : PE X e tl) (hK : X.K = K := by rfl) : PI X tg e (iTup K tl) := by subst hK; exact pi_tup hl
theorem pi_zipK {e2 : Expr} {p tpos : Pos} {elts : List Expr} {kk : Nat} (K : PySem.W.Frag) (hm : X.mg "zip" = none) (ha : PA X [e, e2] t) (hg : Gl X "zip" := by rfl)
    (hs : starEach [e, e2] X.env = (false, eval e X.env) :: starEach [e2] X.env := by rfl) (hpl : (backTo pos (starEach [e2] X.env)).any (·.1) = false := by rfl) (hK : X.K = K := by rfl) :
    PI X (.Tuple elts kk tpos) (.Call (.Name "zip" p) [e, e2] [] pos) (iZip K t) := by subst hK; exact pi_zip hg hm ha hs hpl
theorem pg_tupK {k : Nat} {tt : TGs} {n : Nat} (K : PySem.W.Frag) (hc : X.calm = true) (h : PGs X es tt) (hn : (assignEach es X.env).length = n := by rfl) (hst : (assignEach es X.env).findIdx? (·.1) = none := by rfl) (hK : X.K = K := by rfl) : PG X (.Tuple es k pos) (gTup K n tt) := by
  subst hK; exact pg_tup hc h hn hst
end
section
variable {K : PySem.W.Frag} {H : Hp} {Q : VK} {v : V}
theorem r_ckw1 {x : V} {xs : List V} {H : Hp} {Q : List V → Hp → Prop} {te : TE} {σ : L2.St} {nm : TA} (h : te σ H fun x H1 => nm σ H1 fun xs H2 => Q (x :: xs) H2) : tCons te nm σ H Q := h
theorem r_fldS {ta tv : TE} {f : Str} {D : Ends} {σ : L2.St} {H : Hp} (h : tv σ H fun y H1 => ta σ H1 fun x H2 => ∃ a C dx fs, x = .ref a ∧ H2 a = some (.ins C dx fs) ∧ Cls K C ∧ NoAttr K C f ∧ fs.length < 1000 ∧ D.nx σ (upd H2 a (.ins C dx (putF f y fs)))) : sFld K ta tv f D σ H := h
theorem r_dput {td ty tv : TE} {D : Ends} {σ : L2.St} {H : Hp} (h : tv σ H fun v H1 => td σ H1 fun x H2 => ty σ H2 fun y H3 => ∃ a H4, x = .ref a ∧ DPut H3 a y v H4 ∧ D.nx σ H4) : sDPut td ty tv D σ H := h
theorem r_din {td ty : TE} {σ : L2.St} {H : Hp} {Q : VK} (h : ty σ H fun y H1 => td σ H1 fun x H2 => ∃ a o, x = .ref a ∧ DGet H2 a y o ∧ Q (.bl o.isSome) H2) : tDIn ty td σ H Q := h
theorem r_ixQ {p : Addr} {b : Bool} {xs : List V} {i : Int} (h : H p = some (sq b xs)) (j : Nat) (e : i = (j : Int)) (hj : xs[j]? = some v) (q : Q v H) : rIxQ K (.ref p) (.int i) H Q := by
  cases b with
  | false => exact .inl (r_ixL h j e hj q)
  | true => exact .inr (r_ixT h j e hj q)
end
end Kn
set_option linter.all false
set_option maxRecDepth 100000
set_option maxHeartbeats 4000000
namespace Kn
/-! ### what can be derived: spans of masks below 16 -/
/-- x is a sum of some of ms -/
def mem : List Nat → Nat → Bool
  | [], x => x == 0
  | m :: ms, x => mem ms x || mem ms (x ^^^ m)
theorem xor_swap (x a b : Nat) : x ^^^ a ^^^ b = x ^^^ b ^^^ a := by
  rw [Nat.xor_assoc, Nat.xor_comm a b, ← Nat.xor_assoc]
theorem xor_self_cancel (x a : Nat) : x ^^^ a ^^^ a = x := by
  rw [Nat.xor_assoc, Nat.xor_self, Nat.xor_zero]
theorem mem_zero : ∀ ms : List Nat, mem ms 0 = true
  | [] => rfl
  | m :: ms => by
    show (mem ms 0 || mem ms (0 ^^^ m)) = true
    rw [mem_zero ms] <;> rfl
theorem mem_cons {m : Nat} {ms : List Nat} {x : Nat} : mem (m :: ms) x = (mem ms x || mem ms (x ^^^ m)) := rfl
theorem mem_perm {ms ns : List Nat} (h : ms.Perm ns) : ∀ x, mem ms x = mem ns x := by
  induction h with
  | nil => intro x; rfl
  | cons a _ ih => intro x; rw [mem_cons, mem_cons, ih, ih]
  | swap a b l =>
    intro x
    rw [mem_cons, mem_cons, mem_cons, mem_cons, mem_cons, mem_cons, xor_swap x b a]
    cases mem l x <;> cases mem l (x ^^^ a) <;> cases mem l (x ^^^ b) <;> rfl
  | trans _ _ h1 h2 => intro x; rw [h1, h2]
theorem mem_xor : ∀ {ms : List Nat} {x y : Nat}, mem ms x = true → mem ms y = true → mem ms (x ^^^ y) = true
  | [], x, y, h1, h2 => by
    have e1 : x = 0 := by simpa [mem] using h1
    have e2 : y = 0 := by simpa [mem] using h2
    subst e1 e2; rfl
  | m :: ms, x, y, h1, h2 => by
    rw [mem_cons, Bool.or_eq_true] at h1 h2 ⊢
    rcases h1 with h1 | h1 <;> rcases h2 with h2 | h2
    · exact .inl (mem_xor h1 h2)
    · right; have := mem_xor h1 h2; rwa [← Nat.xor_assoc] at this
    · right
      have := mem_xor h1 h2
      rwa [xor_swap] at this
    · left
      have := mem_xor h1 h2
      rw [← Nat.xor_assoc, xor_swap x m y, xor_self_cancel] at this
      exact this
theorem mem_self {m : Nat} {ms : List Nat} (h : m ∈ ms) : mem ms m = true := by
  induction ms with
  | nil => cases h
  | cons a r ih =>
    rw [mem_cons]
    rcases List.mem_cons.mp h with e | h
    · subst e; rw [Nat.xor_self, mem_zero, Bool.or_true]
    · rw [ih h, Bool.true_or]
/-- what can be derived already adds nothing -/
theorem mem_old {m : Nat} {ms : List Nat} (h : mem ms m = true) (x : Nat) : mem (m :: ms) x = mem ms x := by
  rw [mem_cons]
  cases e : mem ms x with
  | true => rfl
  | false =>
    cases e2 : mem ms (x ^^^ m) with
    | false => rfl
    | true =>
      have := mem_xor e2 h
      rw [xor_self_cancel, e] at this
      cases this
theorem mem_mono_cons {m : Nat} {ms : List Nat} {x : Nat} (h : mem ms x = true) : mem (m :: ms) x = true := by
  rw [mem_cons, h, Bool.true_or]
/-- all of ns can be derived from ms -/
def sub (ns ms : List Nat) : Prop := ∀ x, mem ns x = true → mem ms x = true
theorem sub_of {ns ms : List Nat} (h : ∀ m ∈ ns, mem ms m = true) : sub ns ms := by
  induction ns with
  | nil => intro x e; have e : x = 0 := by simpa [mem] using e
           subst e; exact mem_zero _
  | cons a r ih =>
    intro x e
    have ih := ih fun m hm => h m (List.mem_cons_of_mem _ hm)
    rw [mem_cons, Bool.or_eq_true] at e
    rcases e with e | e
    · exact ih _ e
    · have := mem_xor (ih _ e) (h a List.mem_cons_self)
      rwa [xor_self_cancel] at this
theorem mem_append {as bs : List Nat} {x : Nat} (h : mem bs x = true) : mem (as ++ bs) x = true := by
  induction as with
  | nil => exact h
  | cons a r ih => exact mem_mono_cons ih
theorem mem_append' {as bs : List Nat} {x : Nat} (h : mem as x = true) : mem (as ++ bs) x = true := by
  rw [mem_perm List.perm_append_comm]; exact mem_append h
/-- congruence: the same span, one more -/
theorem mem_congr {ms ns : List Nat} (h : ∀ x, mem ms x = mem ns x) (as : List Nat) (x : Nat) : mem (as ++ ms) x = mem (as ++ ns) x := by
  induction as generalizing x with
  | nil => exact h x
  | cons a r ih => rw [List.cons_append, List.cons_append, mem_cons, mem_cons, ih, ih]
/-- the rank -/
def rk : List Nat → Nat
  | [] => 0
  | m :: ms => if mem ms m = true then rk ms else rk ms + 1
theorem rk_cons (m : Nat) (ms : List Nat) : rk (m :: ms) = if mem ms m = true then rk ms else rk ms + 1 := rfl
def card (p : Nat → Bool) : Nat := ((List.range 16).filter p).length
theorem range_xor : ∀ m, m < 16 → ((List.range 16).map (· ^^^ m)).Perm (List.range 16) := by decide +kernel
theorem card_xor {p : Nat → Bool} {m : Nat} (h : m < 16) : card (fun x => p (x ^^^ m)) = card p := by
  unfold card
  have e : ((List.range 16).filter fun x => p (x ^^^ m)).map (· ^^^ m) = ((List.range 16).map (· ^^^ m)).filter p := by
    rw [List.filter_map]; rfl
  have e2 := ((range_xor m h).filter p).length_eq
  rw [← e, List.length_map] at e2
  exact e2
theorem filter_or {p q : Nat → Bool} : ∀ {l : List Nat}, (∀ x, p x = true → q x = false) → (l.filter fun x => p x || q x).length = (l.filter p).length + (l.filter q).length
  | [], _ => rfl
  | a :: l, h => by
    have ih := filter_or (l := l) h
    cases e : p a with
    | true =>
      have e2 := h a e
      simp only [List.filter_cons, e, e2, Bool.true_or, if_true, Bool.false_eq_true, if_false, List.length_cons, ih]
      omega
    | false =>
      cases e2 : q a with
      | true => simp only [List.filter_cons, e, e2, Bool.or_true, if_true, Bool.false_eq_true, if_false, List.length_cons, ih]; omega
      | false => simp only [List.filter_cons, e, e2, Bool.or_false, Bool.false_eq_true, if_false, ih]
theorem card_rk : ∀ {ms : List Nat}, (∀ m ∈ ms, m < 16) → card (mem ms) = 2 ^ rk ms
  | [], _ => by decide +kernel
  | m :: ms, h => by
    have ih := card_rk (ms := ms) fun x hx => h x (List.mem_cons_of_mem _ hx)
    have hm := h m List.mem_cons_self
    unfold rk
    cases e : mem ms m with
    | true =>
      rw [if_pos rfl, ← ih]
      congr 1
      funext x
      exact mem_old e x
    | false =>
      rw [if_neg Bool.false_ne_true, Nat.pow_succ, ← ih]
      have dis : ∀ x, mem ms x = true → mem ms (x ^^^ m) = false := fun x hx => by
        cases e2 : mem ms (x ^^^ m) with
        | false => rfl
        | true =>
          have := mem_xor hx e2
          rw [← Nat.xor_assoc, Nat.xor_self, Nat.zero_xor, e] at this
          cases this
      show ((List.range 16).filter fun x => mem ms x || mem ms (x ^^^ m)).length = _
      rw [filter_or dis]
      have := card_xor (p := mem ms) hm
      unfold card at this ⊢
      omega
theorem filter_le {p q : Nat → Bool} (h : ∀ x, p x = true → q x = true) : ∀ l : List Nat, (l.filter p).length ≤ (l.filter q).length
  | [] => Nat.le_refl _
  | a :: l => by
    have ih := filter_le h l
    cases e : p a with
    | true => simp only [List.filter_cons, e, h a e, if_true, List.length_cons]; omega
    | false =>
      cases e2 : q a with
      | true => simp only [List.filter_cons, e, e2, if_true, Bool.false_eq_true, if_false, List.length_cons]; omega
      | false => simp only [List.filter_cons, e, e2, Bool.false_eq_true, if_false]; exact ih
theorem pow_le {a b : Nat} (h : 2 ^ a ≤ 2 ^ b) : a ≤ b := (Nat.pow_le_pow_iff_right (by decide)).mp h
/-- the rank by the span alone -/
theorem rk_mono {ms ns : List Nat} (h1 : ∀ m ∈ ms, m < 16) (h2 : ∀ m ∈ ns, m < 16) (h : sub ms ns) : rk ms ≤ rk ns := by
  have e1 := card_rk h1
  have e2 := card_rk h2
  have := filter_le h (List.range 16)
  apply pow_le
  rw [← e1, ← e2]
  exact this
theorem rk_eq {ms ns : List Nat} (h1 : ∀ m ∈ ms, m < 16) (h2 : ∀ m ∈ ns, m < 16) (h : ∀ x, mem ms x = mem ns x) : rk ms = rk ns :=
  Nat.le_antisymm (rk_mono h1 h2 fun x e => by rw [← h]; exact e) (rk_mono h2 h1 fun x e => by rw [h]; exact e)
theorem rk_perm {ms ns : List Nat} (h1 : ∀ m ∈ ms, m < 16) (h : ms.Perm ns) : rk ms = rk ns :=
  rk_eq h1 (fun m hm => h1 m (h.mem_iff.mpr hm)) (mem_perm h)
theorem rk_cons_le (m : Nat) (ms : List Nat) : rk (m :: ms) ≤ rk ms + 1 := by
  rw [rk_cons]; split <;> omega
theorem rk_four {ms : List Nat} (h1 : ∀ m ∈ ms, m < 16) : rk ms ≤ 4 := by
  have e := card_rk h1
  have : card (mem ms) ≤ 16 := by
    have := List.length_filter_le (mem ms) (List.range 16)
    simpa [card] using this
  apply pow_le
  omega
theorem mem_lt : ∀ {ms : List Nat} {x : Nat}, (∀ m ∈ ms, m < 16) → mem ms x = true → x < 16
  | [], x, _, h => by have e : x = 0 := by simpa [mem] using h
                      omega
  | m :: ms, x, hm, h => by
    have h1 : ∀ k ∈ ms, k < 16 := fun k hk => hm k (List.mem_cons_of_mem _ hk)
    rw [mem_cons, Bool.or_eq_true] at h
    rcases h with h | h
    · exact mem_lt h1 h
    · have a := mem_lt h1 h
      have b := hm m List.mem_cons_self
      have := Nat.xor_lt_two_pow (n := 4) (x := x ^^^ m) (y := m) a b
      rwa [xor_self_cancel] at this
/-! ### the list that the law makes: all sums -/
def spl (L : List Nat) (m : Nat) : List Nat := if m ∈ L then L else L ++ L.map (· ^^^ m)
def spanL (ms : List Nat) : List Nat := ms.foldl spl [0]
structure IsSpan (L : List Nat) (ms : List Nat) : Prop where
  iff : ∀ x, x ∈ L ↔ mem ms x = true
  nd : L.Nodup
theorem nodup_map_xor {m : Nat} : ∀ {L : List Nat}, L.Nodup → (L.map (· ^^^ m)).Nodup
  | [], _ => by simp
  | a :: L, h => by
    rw [List.map_cons, List.nodup_cons] at *
    refine ⟨fun hm => ?_, nodup_map_xor h.2⟩
    obtain ⟨b, hb, e⟩ := List.mem_map.mp hm
    have : b = a := by
      have := congrArg (· ^^^ m) e
      simpa [xor_self_cancel] using this
    exact h.1 (this ▸ hb)
theorem IsSpan.step {L : List Nat} {ms : List Nat} {m : Nat} (h : IsSpan L ms) : IsSpan (spl L m) (m :: ms) := by
  unfold spl
  by_cases hm : m ∈ L
  · rw [if_pos hm]
    exact ⟨fun x => by rw [mem_old ((h.iff m).mp hm)]; exact h.iff x, h.nd⟩
  · rw [if_neg hm]
    refine ⟨fun x => ?_, ?_⟩
    · rw [List.mem_append, mem_cons, Bool.or_eq_true, h.iff]
      refine or_congr Iff.rfl ?_
      rw [List.mem_map]
      constructor
      · rintro ⟨a, ha, rfl⟩
        rw [xor_self_cancel]
        exact (h.iff a).mp ha
      · intro e
        exact ⟨x ^^^ m, (h.iff _).mpr e, xor_self_cancel x m⟩
    · rw [List.nodup_append]
      refine ⟨h.nd, nodup_map_xor h.nd, fun a ha b hb e => ?_⟩
      subst e
      obtain ⟨c, hc, e⟩ := List.mem_map.mp hb
      have h1 := (h.iff a).mp ha
      have h2 := (h.iff c).mp hc
      have := mem_xor h1 h2
      rw [← e, xor_swap, Nat.xor_self, Nat.zero_xor] at this
      exact hm ((h.iff m).mpr this)
theorem isSpan_nil : IsSpan [0] [] := ⟨fun x => by simp [mem], by simp⟩
theorem IsSpan.fold {ms : List Nat} : ∀ {L : List Nat} {ns : List Nat}, IsSpan L ns → IsSpan (ms.foldl spl L) (ms.reverse ++ ns) := by
  induction ms with
  | nil => intro L ns h; exact h
  | cons m ms ih =>
    intro L ns h
    rw [List.foldl_cons, List.reverse_cons, List.append_assoc]
    exact ih h.step
theorem spanL_ok (ms : List Nat) : IsSpan (spanL ms) ms := by
  have h := isSpan_nil.fold (ms := ms)
  rw [List.append_nil] at h
  exact ⟨fun x => by rw [mem_perm (List.reverse_perm ms).symm x]; exact h.iff x, h.nd⟩
theorem IsSpan.len {L ms : List Nat} (h : IsSpan L ms) (hm : ∀ m ∈ ms, m < 16) : L.length = 2 ^ rk ms := by
  rw [← card_rk hm]
  unfold card
  refine List.Perm.length_eq ?_
  rw [List.perm_ext_iff_of_nodup h.nd (List.nodup_range.filter _)]
  intro a
  rw [List.mem_filter, List.mem_range, h.iff]
  exact ⟨fun e => ⟨mem_lt hm e, e⟩, fun e => e.2⟩
theorem IsSpan.lt {L ms : List Nat} (h : IsSpan L ms) (hm : ∀ m ∈ ms, m < 16) : ∀ x ∈ L, x < 16 := fun x hx => mem_lt hm ((h.iff x).mp hx)
theorem IsSpan.size {L ms : List Nat} (h : IsSpan L ms) (hm : ∀ m ∈ ms, m < 16) : L.length ≤ 16 := by
  rw [h.len hm]
  have := rk_four hm
  calc 2 ^ rk ms ≤ 2 ^ 4 := Nat.pow_le_pow_right (by decide) this
    _ = 16 := rfl
theorem IsSpan.perm {L L' ms : List Nat} (h : IsSpan L ms) (p : L'.Perm L) : IsSpan L' ms := ⟨fun x => by rw [p.mem_iff]; exact h.iff x, p.nodup_iff.mpr h.nd⟩
/-! ### rows: what the program's Span keeps -/
def leftF (rows : List Nat) (x : Nat) : Nat := rows.foldl (fun m r => min m (m ^^^ r)) x
def insD (y : Nat) : List Nat → List Nat
  | [] => [y]
  | r :: rs => if y > r then y :: r :: rs else r :: insD y rs
def opt (l : List Nat) : List (List Nat) := [] :: l.map fun x => [x]
/-- descending rows, no two with the same top bit -/
def ech : List (List Nat) := (opt [8, 9, 10, 11, 12, 13, 14, 15]).flatMap fun a => (opt [4, 5, 6, 7]).flatMap fun b => (opt [2, 3]).flatMap fun c => (opt [1]).map fun d => a ++ (b ++ (c ++ d))
theorem ech_left : ∀ rows ∈ ech, ∀ x < 16, (leftF rows x == 0) = mem rows x := by decide +kernel
theorem ech_lt : ∀ rows ∈ ech, ∀ x < 16, leftF rows x < 16 := by decide +kernel
theorem ech_rows : ∀ rows ∈ ech, ∀ r ∈ rows, r < 16 := by decide +kernel
theorem ech_desc : ∀ rows ∈ ech, rows.Pairwise (fun a b => b ≤ a) := by decide +kernel
theorem ech_len : ∀ rows ∈ ech, rows.length ≤ 4 := by decide +kernel
theorem ech_slots : ∀ a ∈ opt [8, 9, 10, 11, 12, 13, 14, 15], ∀ b ∈ opt [4, 5, 6, 7], ∀ c ∈ opt [2, 3], ∀ d ∈ opt [1], ∀ x < 16, leftF (a ++ (b ++ (c ++ d))) x ≠ 0 →
    (∃ a' ∈ opt [8, 9, 10, 11, 12, 13, 14, 15], insD (leftF (a ++ (b ++ (c ++ d))) x) (a ++ (b ++ (c ++ d))) = a' ++ (b ++ (c ++ d))) ∨ (∃ b' ∈ opt [4, 5, 6, 7], insD (leftF (a ++ (b ++ (c ++ d))) x) (a ++ (b ++ (c ++ d))) = a ++ (b' ++ (c ++ d))) ∨
    (∃ c' ∈ opt [2, 3], insD (leftF (a ++ (b ++ (c ++ d))) x) (a ++ (b ++ (c ++ d))) = a ++ (b ++ (c' ++ d))) ∨ (∃ d' ∈ opt [1], insD (leftF (a ++ (b ++ (c ++ d))) x) (a ++ (b ++ (c ++ d))) = a ++ (b ++ (c ++ d'))) := by decide +kernel
theorem mem_ech {rows : List Nat} : rows ∈ ech ↔ ∃ a ∈ opt [8, 9, 10, 11, 12, 13, 14, 15], ∃ b ∈ opt [4, 5, 6, 7], ∃ c ∈ opt [2, 3], ∃ d ∈ opt [1], a ++ (b ++ (c ++ d)) = rows := by
  unfold ech
  simp only [List.mem_flatMap, List.mem_map]
theorem ech_ins (rows : List Nat) (h : rows ∈ ech) (x : Nat) (hx : x < 16) (h0 : leftF rows x ≠ 0) : insD (leftF rows x) rows ∈ ech := by
  obtain ⟨a, ha, b, hb, c, hc, d, hd, rfl⟩ := mem_ech.mp h
  rcases ech_slots a ha b hb c hc d hd x hx h0 with ⟨z, hz, e⟩ | ⟨z, hz, e⟩ | ⟨z, hz, e⟩ | ⟨z, hz, e⟩
  · rw [e]; exact mem_ech.mpr ⟨z, hz, b, hb, c, hc, d, hd, rfl⟩
  · rw [e]; exact mem_ech.mpr ⟨a, ha, z, hz, c, hc, d, hd, rfl⟩
  · rw [e]; exact mem_ech.mpr ⟨a, ha, b, hb, z, hz, d, hd, rfl⟩
  · rw [e]; exact mem_ech.mpr ⟨a, ha, b, hb, c, hc, z, hz, rfl⟩
theorem ech_insdesc : ∀ rows ∈ ech, ∀ x < 16, leftF rows x ≠ 0 → (insD (leftF rows x) rows).Pairwise (fun a b => b ≤ a) := fun rows h x hx h0 => ech_desc _ (ech_ins rows h x hx h0)
theorem insD_perm (y : Nat) : ∀ rs : List Nat, (insD y rs).Perm (y :: rs)
  | [] => .refl _
  | r :: rs => by
    unfold insD
    split
    · exact .refl _
    · exact ((insD_perm y rs).cons r).trans (.swap ..)
theorem ech_xor : ∀ rows ∈ ech, ∀ x < 16, mem rows (x ^^^ leftF rows x) = true := by decide +kernel
/-- rows that stand for what can be derived from ms -/
structure Rows (rows ms : List Nat) : Prop where
  ech : rows ∈ ech
  mem : ∀ x, mem rows x = mem ms x
  len : rows.length = rk ms
theorem rows_nil : Rows [] [] := ⟨by decide +kernel, fun _ => rfl, rfl⟩
theorem Rows.has {rows ms : List Nat} (h : Rows rows ms) {x : Nat} (hx : x < 16) : (leftF rows x == 0) = Kn.mem ms x := by
  rw [ech_left rows h.ech x hx, h.mem]
theorem Rows.old {rows ms : List Nat} (h : Rows rows ms) {x : Nat} (hx : x < 16) (h0 : leftF rows x = 0) : Rows rows (x :: ms) := by
  have e : Kn.mem ms x = true := by rw [← h.has hx, h0]; rfl
  exact ⟨h.ech, fun y => by rw [mem_old e]; exact h.mem y, by rw [h.len, rk_cons, if_pos e]⟩
theorem Rows.add {rows ms : List Nat} (h : Rows rows ms) {x : Nat} (hx : x < 16) (h0 : leftF rows x ≠ 0) : Rows (insD (leftF rows x) rows) (x :: ms) := by
  have e : Kn.mem ms x = false := by
    rw [← h.has hx]
    simpa using h0
  refine ⟨ech_ins rows h.ech x hx h0, fun y => ?_, ?_⟩
  · rw [mem_perm (insD_perm _ _), mem_cons, mem_cons, ← h.mem, ← h.mem]
    have k := ech_xor rows h.ech x hx
    cases e1 : Kn.mem rows y with
    | true => rfl
    | false =>
      cases e2 : Kn.mem rows (y ^^^ x) with
      | true =>
        have := mem_xor e2 k
        rw [← Nat.xor_assoc, xor_self_cancel] at this
        rw [this]
      | false =>
        cases e3 : Kn.mem rows (y ^^^ leftF rows x) with
        | false => rfl
        | true =>
          have := mem_xor e3 k
          rw [← Nat.xor_assoc, xor_swap, xor_self_cancel, e2] at this
          · cases this
  · rw [(insD_perm _ _).length_eq, List.length_cons, h.len, rk_cons, e, if_neg Bool.false_ne_true]
theorem rows_lt {rows ms : List Nat} (h : Rows rows ms) : ∀ r ∈ rows, r < 16 := ech_rows rows h.ech
end Kn
set_option Elab.async false
set_option linter.all false
set_option maxRecDepth 100000
set_option maxHeartbeats 4000000
namespace Kn
open PySem PySem.Spec PyProof.Rows L2
/-! ### texts -/
/-- the places of the letters of a parity -/
def cd (m : Nat) : List Nat := (List.range 8).filter fun j => m.testBit j
def lt (j : Nat) : Str := ⟨#[97 + j]⟩
def txt (m : Nat) : Str := ⟨((cd m).map (97 + ·)).toArray⟩
def nl (i : Nat) : Str := ⟨#[65 + i]⟩
def lk (l : Nat × Nat) : Str := ⟨#[65 + l.1, 65 + l.2]⟩
def nset (S : Nat) : Str := ⟨(((List.range 6).filter fun j => S.testBit j).map (65 + ·)).toArray⟩
abbrev tv (m : Nat) : V := .str (txt m)
theorem t_find : ∀ j < 8, Txt.find "abcdefgh" (lt j) = (j : Int) := by decide +kernel
theorem t_cut : ∀ v < 7, cutS "abcdef" none (some ((v : Nat) : Int)) = txt (2 ^ v - 1) := by decide +kernel
theorem n_cut : ∀ v < 7, cutS "ABCDEF" none (some ((v : Nat) : Int)) = nset (2 ^ v - 1) := by decide +kernel
theorem n_index : ∀ i < 6, Builtin.Str.occurrences "ABCDEF" (nl i) 0 (Str.length "ABCDEF") 1 = [i] := by decide +kernel
theorem t_sum : ∀ x < 16, ∀ y < 16, ∀ j < 6, decide ((Txt.count (Txt.join Str.empty [txt x, txt y]) (lt j)) % 2 = 1) = (x ^^^ y).testBit j := by decide +kernel
theorem t_join : ∀ m < 256, Txt.join Str.empty ((cd m).map lt) = txt m := by decide +kernel
theorem txt_inj : ∀ a < 16, ∀ b < 16, txt a = txt b → a = b := by decide +kernel
theorem n_index4 : ∀ i < 4, Builtin.Str.occurrences "ABCDEF" (nl i) 0 (Str.length "ABCDEF") 1 = [i] := by decide +kernel
theorem nl_in : ∀ i < 6, ∀ S < 64, decide (65 + i ∈ (nset S).cps.toList) = S.testBit i := by decide +kernel
end Kn
set_option linter.all false
set_option maxRecDepth 100000
set_option maxHeartbeats 4000000
namespace Kn
theorem Rows.perm {rows ms ns : List Nat} (h : Rows rows ms) (p : ms.Perm ns) (hm : ∀ m ∈ ms, m < 16) : Rows rows ns :=
  ⟨h.ech, fun x => by rw [h.mem, mem_perm p], by rw [h.len, rk_perm hm p]⟩
theorem Rows.old' {rows ms : List Nat} (h : Rows rows ms) (hm : ∀ m ∈ ms, m < 16) {x : Nat} (hx : x < 16) (h0 : leftF rows x = 0) : Rows rows (ms ++ [x]) :=
  (h.old hx h0).perm (List.perm_append_comm (l₁ := [x]) (l₂ := ms)) fun m hm' => by
    rcases List.mem_cons.mp hm' with e | e
    · rw [e]; exact hx
    · exact hm m e
theorem Rows.add' {rows ms : List Nat} (h : Rows rows ms) (hm : ∀ m ∈ ms, m < 16) {x : Nat} (hx : x < 16) (h0 : leftF rows x ≠ 0) : Rows (insD (leftF rows x) rows) (ms ++ [x]) :=
  (h.add hx h0).perm (List.perm_append_comm (l₁ := [x]) (l₂ := ms)) fun m hm' => by
    rcases List.mem_cons.mp hm' with e | e
    · rw [e]; exact hx
    · exact hm m e
/-- the indices of the basis among the first n -/
def bI (ms : List Nat) (n : Nat) : List Nat := (List.range n).filter fun i => !mem (ms.take i) (ms.getD i 0)
theorem bI_succ (ms : List Nat) (n : Nat) : bI ms (n + 1) = if mem (ms.take n) (ms.getD n 0) = true then bI ms n else bI ms n ++ [n] := by
  unfold bI
  rw [List.range_succ, List.filter_append]
  cases e : mem (ms.take n) (ms.getD n 0) with
  | true =>
    have z : ([n].filter fun i => !mem (ms.take i) (ms.getD i 0)) = [] := by
      rw [List.filter_cons, e] <;> rfl
    rw [z, if_pos rfl, List.append_nil]
  | false =>
    have z : ([n].filter fun i => !mem (ms.take i) (ms.getD i 0)) = [n] := by
      rw [List.filter_cons, e] <;> rfl
    rw [z, if_neg Bool.false_ne_true]
theorem bI_lt {ms : List Nat} {n i : Nat} (h : i ∈ bI ms n) : i < n := by
  unfold bI at h
  exact List.mem_range.mp (List.mem_filter.mp h).1
theorem take_snoc {ms : List Nat} {n : Nat} (h : n < ms.length) : ms.take (n + 1) = ms.take n ++ [ms.getD n 0] := by
  rw [List.take_add_one, List.getElem?_eq_getElem h, List.getD_eq_getElem?_getD, List.getElem?_eq_getElem h]
  rfl
theorem bI_mem {ms : List Nat} : ∀ {n : Nat}, n ≤ ms.length → ∀ x, mem ((bI ms n).map fun i => ms.getD i 0) x = mem (ms.take n) x
  | 0, _, x => by simp [bI]
  | n + 1, h, x => by
    have ih := bI_mem (ms := ms) (n := n) (by omega)
    rw [bI_succ, take_snoc (by omega), mem_perm (List.perm_append_comm (l₁ := ms.take n) (l₂ := [ms.getD n 0]))]
    show _ = mem (ms.getD n 0 :: ms.take n) x
    cases e : mem (ms.take n) (ms.getD n 0) with
    | true =>
      rw [if_pos rfl, ih x, mem_old e x]
    | false =>
      rw [if_neg Bool.false_ne_true, List.map_append, mem_perm List.perm_append_comm]
      show mem (ms.getD n 0 :: (bI ms n).map fun i => ms.getD i 0) x = _
      rw [mem_cons, mem_cons, ih, ih]
end Kn
set_option Elab.async false
set_option linter.all false
set_option maxRecDepth 100000
set_option maxHeartbeats 4000000
namespace Kn
open PySem PySem.Spec PyProof.Rows L2
local macro_rules | `(tactic| walk_at "hp") => `(tactic| first | assumption | exact upd_same | (rw [upd_ne (by assumption)]; walk_at "hp"))
local macro_rules | `(tactic| walk_at "r1") => `(tactic| first
  | with_reducible refine r_seq ?_
  | with_reducible refine r_asg ?_
  | (with_reducible refine r_name ?_; try dsimp only [List.set_cons_succ, List.set_cons_zero])
  | ((with_reducible refine' r_var (v := ?v1) ?h1 ?q1); (case h1 => exact rfl))
  | with_reducible refine r_c ?_
  | with_reducible refine r_op ?_
  | with_reducible refine r_un ?_
  | with_reducible refine r_I0 ?_
  | with_reducible refine r_U ?_
  | with_reducible refine r_ret ?_
  | with_reducible refine r_retN ?_
  | with_reducible refine r_drop ?_
  | with_reducible refine r_next ?_
  | with_reducible refine r_brk ?_
  | with_reducible refine r_cons ?_
  | with_reducible refine r_nil ?_
  | with_reducible refine r_cb ?_
  | with_reducible refine r_ckw ?_
  | with_reducible refine r_test ?_
  | with_reducible refine r_B ?_
  | with_reducible refine r_blN ?_
  | with_reducible refine r_bl ?_
  | with_reducible refine r_ifS ?_
  | with_reducible refine r_if ?_
  | with_reducible refine r_not ?_
  | with_reducible refine r_and ?_
  | with_reducible refine r_or ?_
  | with_reducible refine r_andV ?_
  | with_reducible refine r_andB ?_
  | with_reducible refine r_notV ?_
  | with_reducible refine r_notB ?_
  | with_reducible refine r_call ?_
  | with_reducible refine r_make ?_
  | with_reducible refine r_meth ?_
  | with_reducible refine r_fld ?_
  | with_reducible refine r_tup ?_
  | with_reducible refine r_lst ?_
  | with_reducible refine r_sub ?_
  | with_reducible refine r_sl ?_
  | with_reducible refine r_nop ?_
  | with_reducible refine r_part ?_
  | with_reducible refine r_pti ?_
  | with_reducible refine r_bm ?_
  | with_reducible refine r_m1 ?_
  | with_reducible refine r_m1s ?_
  | with_reducible refine r_dget ?_
  | with_reducible refine r_eq ?_
  | with_reducible refine r_ne ?_
  | with_reducible refine r_eqS ?_
  | with_reducible refine r_neS ?_
  | with_reducible refine r_for ?_
  | with_reducible refine r_lc ?_
  | with_reducible refine r_yes ?_
  | with_reducible refine r_iStr ?_
  | with_reducible refine r_iList ?_
  | with_reducible refine r_iTup ?_
  | with_reducible refine r_iSq ?_
  | with_reducible refine r_iRng ?_
  | with_reducible refine r_iEnumQ ?_
  | with_reducible refine r_iEnumS ?_
  | with_reducible refine r_iEnum ?_
  | with_reducible refine r_iZip ?_
  | with_reducible refine r_tr ?_
  | with_reducible refine r_iSqK ?_
  | with_reducible refine r_fldS ?_
  | with_reducible refine r_dput ?_
  | with_reducible refine r_din ?_
  | with_reducible refine r_gcons ?_
  | with_reducible refine r_gnil ?_
  | with_reducible refine r_gtup upd_same rfl ?_
  | with_reducible refine r_chain ?_
  | with_reducible refine iteT ?_
  | with_reducible refine iteF ?_)
local macro_rules | `(tactic| walk_at "wp") => `(tactic| dsimp only [wipe, List.map_cons, List.map_nil, List.set_cons_succ, List.set_cons_zero])
local macro_rules | `(tactic| walk_at "rd") => `(tactic| repeat (walk_at "r1"))
local macro_rules | `(tactic| walk_at "rd0") => `(tactic| (simp only [L2.start, List.map_cons, List.map_nil, List.length_cons, List.length_nil, Nat.reduceAdd, Nat.reduceSub, List.replicate_succ, List.replicate_zero, List.nil_append, List.cons_append]; repeat (walk_at "r1")))
local macro_rules | `(tactic| walk_at "wp") => `(tactic| dsimp only [wipe, List.map_cons, List.map_nil, List.set_cons_succ, List.set_cons_zero])
/-! ### _law_take -/
/-- the pool at p with this digit store: what a draw leaves -/
def spTake0 : Sp := fun vs H Q _ => ∃ (p q : Addr) (cs : List Int) (n at_ dg st : Int), vs = [.ref p, .int n] ∧ H p = some (.lst [.ref q, .int at_, .int dg, .int st]) ∧ H q = some (.lst (cs.map V.int)) ∧ (∀ c ∈ cs, 0 ≤ c) ∧ 0 ≤ at_ ∧ 0 < dg ∧ 0 ≤ st ∧ st < 2147483647 ∧ 0 < n ∧ n < 1073741824 ∧
  ∀ (v : Int) (H' : Hp), 0 ≤ v → v < n → Kept H H' → Pool p q cs H' → Q (.int v) H'
def spTake : Sp := fun vs H Q _ => ∃ (p q : Addr) (cs : List Int) (n : Int), vs = [.ref p, .int n] ∧ Pool p q cs H ∧ 0 < n ∧ n < 1073741824 ∧
  ∀ (v : Int) (H' : Hp), 0 ≤ v → v < n → Kept H H' → Pool p q cs H' → Q (.int v) H'
section
variable {P : Program} {w : World} {K : PySem.W.Frag} {mg : Str → Option Value} {base : Heap}
/-- a promise that nobody asks -/
abbrev spNo : Sp := fun _ _ _ _ => False
theorem c_take9 (W : TW K mg) : Cal P w K mg base 1 "_law_take" P__law_take spNo := by
  obtain ⟨fd, F⟩ := W.f__law_take
  exact ⟨_, fd, W.g__law_take, F.kp, F.bindsN (fun _ _ _ _ _ _ us hl => match us, hl with | [_, _], _ => rfl), okN (k := 0) F sc__law_take (fun vs H Q E h => h.elim) (fun cdv A outer s H vs Q E hr h => h.elim)⟩
theorem c_take0 (W : TW K mg) : Cal P w K mg base 2 "_law_take" P__law_take spTake0 := by
  have c__law_take := c_take9 (P := P) (w := w) (base := base) W
  obtain ⟨fd, F⟩ := W.f__law_take
  refine ⟨_, fd, W.g__law_take, F.kp, F.bindsN (fun _ _ _ _ _ _ us hl => match us, hl with | [_, _], _ => rfl), okN F sc__law_take (fun vs H Q E h => ?_) (fun cdv A outer s H vs Q E hr h => ?_)⟩
  · obtain ⟨p, q, cs, n, _, _, _, rfl, _⟩ := h
    rfl
  · have hu := hu_of hr
    obtain ⟨p, q, cs, n, at_, dg, st, rfl, hp, hq, nn, ha, hd, hs, hs2, hn, hn2, k⟩ := h
    refine ⟨_, (pss_cons (ps_if (pt_cmpR op_gt (pe_ix (ixL K) (pv 0) pe_int (fun _ _ => rfl)) pe_int (nomark _))
   (pss_cons (ps_set (i := 2) sc__law_take.nd rfl (Or.inl rfl) (pe_op op_mod (pe_callTy call_int1 rfl W.z_int (by decide +kernel) (pa_cons (pe_ix (ixL K) (pv 0) pe_int (fun _ _ => rfl)) pa_nil)) (pv 1)))
  (pss_cons (ps_asg (pe_op op_fdiv (pe_ix (ixL K) (pv 0) pe_int (fun _ _ => rfl)) (pv 1)) (pg_sub (pv 0) pe_int set_list))
  (pss_one (ps_ret (pv 2)))))
   pss_nil)
  (pss_cons (ps_set (i := 3) sc__law_take.nd rfl (Or.inl rfl) pe_int)
  (pss_cons (ps_if (pt_cmpR op_lt (pe_ix (ixL K) (pv 0) pe_int (fun _ _ => rfl)) (pe_callB (lenK K) rfl W.z_len PySem.boot_len (pa_cons (pe_ix (ixL K) (pv 0) pe_int (fun _ _ => rfl)) pa_nil)) (nomark _))
   (pss_one (ps_set (i := 3) sc__law_take.nd rfl (Or.inl rfl) (pe_ix (ixL K) (pe_ix (ixL K) (pv 0) pe_int (fun _ _ => rfl)) (pe_ix (ixL K) (pv 0) pe_int (fun _ _ => rfl)) (fun _ _ => rfl))))
   pss_nil)
  (pss_cons (ps_asg (pe_op op_add (pe_ix (ixL K) (pv 0) pe_int (fun _ _ => rfl)) pe_int) (pg_sub (pv 0) pe_int set_list))
  (pss_cons (ps_if (pt_cmpR op_ge (pv 3) (pe_op op_pow pe_int pe_int) (nomark _))
   (pss_cons (ps_asg (pe_op op_fdiv (pv 3) pe_int) (pg_sub (pv 0) pe_int set_list))
  (pss_one (ps_ret (pe_cal c__law_take (hr.mono (by decide)) (pa_cons (pv 0) (pa_cons (pv 1) pa_nil))))))
   pss_nil)
  (pss_cons (ps_asg (pe_op op_mod (pe_callTy call_int1 rfl W.z_int (by decide +kernel) (pa_cons (pe_op op_add (pe_op op_add (pe_op op_mul (pe_ix (ixL K) (pv 0) pe_int (fun _ _ => rfl)) pe_int) (pe_op op_mul (pv 3) pe_int)) (pe_op op_mul (pe_ix (ixL K) (pv 0) pe_int (fun _ _ => rfl)) pe_int)) pa_nil)) pe_int) (pg_sub (pv 0) pe_int set_list))
  (pss_cons (ps_set (i := 4) sc__law_take.nd rfl (Or.inl rfl) (pe_op op_mod (pe_callTy call_int1 rfl W.z_int (by decide +kernel) (pa_cons (pe_op op_add (pe_op op_add (pe_op op_mul (pe_ix (ixL K) (pv 0) pe_int (fun _ _ => rfl)) (pe_ix (ixL K) (pv 0) pe_int (fun _ _ => rfl))) (pe_op op_mul (pe_ix (ixL K) (pv 0) pe_int (fun _ _ => rfl)) pe_int)) pe_int) pa_nil)) pe_int))
  (pss_one (ps_ret (pe_op op_mod (pe_callTy call_int1 rfl W.z_int (by decide +kernel) (pa_cons (pe_op op_fdiv (pv 4) pe_int) pa_nil)) (pv 1))))))))))), ?_⟩
    walk_at "rd0"
    refine r_ixL hp 2 rfl rfl ?_
    walk_at "rd"
    refine iteD (fun _ => ?_) (fun c => absurd hd c)
    walk_at "rd"
    refine r_ixL hp 2 rfl rfl ?_
    walk_at "rd"
    refine .inl ⟨_, rfl, ?_⟩
    walk_at "rd"
    refine r_I hn ?_
    walk_at "rd"
    refine r_ixL hp 2 rfl rfl ?_
    walk_at "rd"
    refine r_I ⟨hn, hn2⟩ ?_
    walk_at "rd"
    refine r_setL hp 2 rfl (by show 2 < 4; omega) ?_
    walk_at "rd"
    refine k _ _ (Int.emod_nonneg _ (by omega)) (Int.emod_lt_of_pos _ hn) (Kept.pool hp) ?_
    have nqp : q ≠ p := fun e => by
      rw [e, hp] at hq
      rcases cs with _ | ⟨x, r⟩ <;> cases hq
    exact ⟨⟨at_, dg / n, st, upd_same, ha, Int.ediv_nonneg (by omega) (by omega), hs, hs2⟩, by rw [upd_ne nqp]; exact hq, nn⟩
theorem c_take (W : TW K mg) : Cal P w K mg base 3 "_law_take" P__law_take spTake := by
  have c__law_take := c_take0 (P := P) (w := w) (base := base) W
  obtain ⟨fd, F⟩ := W.f__law_take
  refine ⟨_, fd, W.g__law_take, F.kp, F.bindsN (fun _ _ _ _ _ _ us hl => match us, hl with | [_, _], _ => rfl), okN F sc__law_take (fun vs H Q E h => ?_) (fun cdv A outer s H vs Q E hr h => ?_)⟩
  · obtain ⟨p, q, cs, n, rfl, _⟩ := h
    rfl
  · have hu := hu_of hr
    obtain ⟨p, q, cs, n, rfl, ⟨⟨at_, dg, st, hp, ha, hd, hs, hs2⟩, hq, nn⟩, hn, hn2, k⟩ := h
    have nqp : q ≠ p := fun e => by
      rw [e, hp] at hq
      rcases cs with _ | ⟨x, r⟩ <;> cases hq
    refine ⟨_, (pss_cons (ps_if (pt_cmpR op_gt (pe_ix (ixL K) (pv 0) pe_int (fun _ _ => rfl)) pe_int (nomark _))
   (pss_cons (ps_set (i := 2) sc__law_take.nd rfl (Or.inl rfl) (pe_op op_mod (pe_callTy call_int1 rfl W.z_int (by decide +kernel) (pa_cons (pe_ix (ixL K) (pv 0) pe_int (fun _ _ => rfl)) pa_nil)) (pv 1)))
  (pss_cons (ps_asg (pe_op op_fdiv (pe_ix (ixL K) (pv 0) pe_int (fun _ _ => rfl)) (pv 1)) (pg_sub (pv 0) pe_int set_list))
  (pss_one (ps_ret (pv 2)))))
   pss_nil)
  (pss_cons (ps_set (i := 3) sc__law_take.nd rfl (Or.inl rfl) pe_int)
  (pss_cons (ps_if (pt_cmpR op_lt (pe_ix (ixL K) (pv 0) pe_int (fun _ _ => rfl)) (pe_callB (lenK K) rfl W.z_len PySem.boot_len (pa_cons (pe_ix (ixL K) (pv 0) pe_int (fun _ _ => rfl)) pa_nil)) (nomark _))
   (pss_one (ps_set (i := 3) sc__law_take.nd rfl (Or.inl rfl) (pe_ix (ixL K) (pe_ix (ixL K) (pv 0) pe_int (fun _ _ => rfl)) (pe_ix (ixL K) (pv 0) pe_int (fun _ _ => rfl)) (fun _ _ => rfl))))
   pss_nil)
  (pss_cons (ps_asg (pe_op op_add (pe_ix (ixL K) (pv 0) pe_int (fun _ _ => rfl)) pe_int) (pg_sub (pv 0) pe_int set_list))
  (pss_cons (ps_if (pt_cmpR op_ge (pv 3) (pe_op op_pow pe_int pe_int) (nomark _))
   (pss_cons (ps_asg (pe_op op_fdiv (pv 3) pe_int) (pg_sub (pv 0) pe_int set_list))
  (pss_one (ps_ret (pe_cal c__law_take (hr.mono (by decide)) (pa_cons (pv 0) (pa_cons (pv 1) pa_nil))))))
   pss_nil)
  (pss_cons (ps_asg (pe_op op_mod (pe_callTy call_int1 rfl W.z_int (by decide +kernel) (pa_cons (pe_op op_add (pe_op op_add (pe_op op_mul (pe_ix (ixL K) (pv 0) pe_int (fun _ _ => rfl)) pe_int) (pe_op op_mul (pv 3) pe_int)) (pe_op op_mul (pe_ix (ixL K) (pv 0) pe_int (fun _ _ => rfl)) pe_int)) pa_nil)) pe_int) (pg_sub (pv 0) pe_int set_list))
  (pss_cons (ps_set (i := 4) sc__law_take.nd rfl (Or.inl rfl) (pe_op op_mod (pe_callTy call_int1 rfl W.z_int (by decide +kernel) (pa_cons (pe_op op_add (pe_op op_add (pe_op op_mul (pe_ix (ixL K) (pv 0) pe_int (fun _ _ => rfl)) (pe_ix (ixL K) (pv 0) pe_int (fun _ _ => rfl))) (pe_op op_mul (pe_ix (ixL K) (pv 0) pe_int (fun _ _ => rfl)) pe_int)) pe_int) pa_nil)) pe_int))
  (pss_one (ps_ret (pe_op op_mod (pe_callTy call_int1 rfl W.z_int (by decide +kernel) (pa_cons (pe_op op_fdiv (pv 4) pe_int) pa_nil)) (pv 1))))))))))), ?_⟩
    walk_at "rd0"
    refine r_ixL hp 2 rfl rfl ?_
    walk_at "rd"
    refine iteD (fun hd0 => ?_) (fun c => ?_)
    · walk_at "rd"
      refine r_ixL hp 2 rfl rfl ?_
      walk_at "rd"
      refine .inl ⟨_, rfl, ?_⟩
      walk_at "rd"
      refine r_I hn ?_
      walk_at "rd"
      refine r_ixL hp 2 rfl rfl ?_
      walk_at "rd"
      refine r_I ⟨hn, hn2⟩ ?_
      walk_at "rd"
      refine r_setL hp 2 rfl (by show 2 < 4; omega) ?_
      walk_at "rd"
      refine k _ _ (Int.emod_nonneg _ (by omega)) (Int.emod_lt_of_pos _ hn) (Kept.pool hp) ?_
      exact ⟨⟨at_, dg / n, st, upd_same, ha, Int.ediv_nonneg (by omega) (by omega), hs, hs2⟩, by rw [upd_ne nqp]; exact hq, nn⟩
    · walk_at "rd"
      refine r_ixL hp 1 rfl rfl ?_
      walk_at "rd"
      refine r_ixL hp 0 rfl rfl ?_
      walk_at "rd"
      refine ⟨_, _, rfl, .inl ⟨_, SqL.of hq, rfl⟩, ?_⟩
      walk_at "rd"
      rw [List.length_map]
      refine iteD (fun c1 => ?_) (fun c1 => ?_)
      case' refine_1 =>
        walk_at "rd"
        refine r_ixL hp 0 rfl rfl ?_
        walk_at "rd"
        refine r_ixL hp 1 rfl rfl ?_
        have hlt : at_.toNat < cs.length := by omega
        refine r_ixL hq at_.toNat (by omega) (by rw [List.getElem?_map, List.getElem?_eq_getElem hlt] <;> rfl) ?_
        have hz : 0 ≤ cs[at_.toNat] := nn _ (List.getElem_mem hlt)
        generalize cs[at_.toNat] = z at hz
        walk_at "rd"
      case' refine_2 =>
        have hz : (0 : Int) ≤ 0 := Int.le_refl 0
        walk_at "rd"
      all_goals
        refine r_ixL hp 1 rfl rfl ?_
        walk_at "rd"
        refine r_setL hp 1 rfl (by show 1 < 4; omega) ?_
        have hp1 : upd H p (.lst [.ref q, .int (at_ + 1), .int dg, .int st]) p = some (.lst [.ref q, .int (at_ + 1), .int dg, .int st]) := upd_same
        have hq1 : upd H p (.lst [.ref q, .int (at_ + 1), .int dg, .int st]) q = some (.lst (cs.map V.int)) := by rw [upd_ne nqp]; exact hq
        have s1 : Kept H (upd H p (.lst [.ref q, .int (at_ + 1), .int dg, .int st])) := Kept.pool hp
        show tSeq _ _ _ _ (upd H p (.lst [.ref q, .int (at_ + 1), .int dg, .int st]))
        generalize upd H p (.lst [.ref q, .int (at_ + 1), .int dg, .int st]) = H1 at hp1 hq1 s1 ⊢
        walk_at "rd"
        refine r_I ⟨by decide, by decide, by decide⟩ ?_
        walk_at "rd"
        have e10 : (10 : Int) ^ (18 : Int).toNat = 1000000000000000000 := by decide
        rw [e10]
        refine iteD (fun c2 => ?_) (fun c2 => ?_)
        · walk_at "rd"
          refine r_I ⟨by decide, by decide⟩ ?_
          walk_at "rd"
          refine r_setL hp1 2 rfl (by show 2 < 4; omega) ?_
          walk_at "rd"
          refine ⟨p, q, cs, n, at_ + 1, _, st, rfl, upd_same, (by rw [upd_ne nqp]; exact hq1), nn, (by omega), (by omega), hs, hs2, hn, hn2, fun v H' v0 vn kp pl => ?_⟩
          exact k v H' v0 vn ((s1.trans (Kept.pool hp1)).trans kp) pl
        · walk_at "rd"
          refine r_ixL hp1 3 rfl rfl ?_
          walk_at "rd"
          refine r_I (.inr ⟨by decide, by decide⟩) ?_
          walk_at "rd"
          refine r_I (.inr ⟨by decide, by decide⟩) ?_
          walk_at "rd"
          refine r_ixL hp1 1 rfl rfl ?_
          walk_at "rd"
          refine r_I (.inr ⟨by decide, by decide⟩) ?_
          walk_at "rd"
          refine .inl ⟨_, rfl, ?_⟩
          walk_at "rd"
          refine r_I (by decide) ?_
          walk_at "rd"
          refine r_setL hp1 3 rfl (by show 3 < 4; omega) ?_
          generalize hst : (st * 48271 + _ * 69621 + (at_ + 1) * 613) % 2147483647 = st'
          have h0 : 0 ≤ st' := by rw [← hst]; exact Int.emod_nonneg _ (by decide)
          have h1 : st' < 2147483647 := by rw [← hst]; exact Int.emod_lt_of_pos _ (by decide)
          have hp2 : upd H1 p (.lst [.ref q, .int (at_ + 1), .int dg, .int st']) p = some (.lst [.ref q, .int (at_ + 1), .int dg, .int st']) := upd_same
          have hq2 : upd H1 p (.lst [.ref q, .int (at_ + 1), .int dg, .int st']) q = some (.lst (cs.map V.int)) := by rw [upd_ne nqp]; exact hq1
          have s2 : Kept H (upd H1 p (.lst [.ref q, .int (at_ + 1), .int dg, .int st'])) := s1.trans (Kept.pool hp1)
          show tSeq _ _ _ _ (upd H1 p (.lst [.ref q, .int (at_ + 1), .int dg, .int st']))
          generalize upd H1 p (.lst [.ref q, .int (at_ + 1), .int dg, .int st']) = H2 at hp2 hq2 s2 ⊢
          walk_at "rd"
          refine r_ixL hp2 3 rfl rfl ?_
          walk_at "rd"
          refine r_ixL hp2 3 rfl rfl ?_
          walk_at "rd"
          refine r_I (.inl ⟨by omega, by omega⟩) ?_
          walk_at "rd"
          refine r_ixL hp2 3 rfl rfl ?_
          walk_at "rd"
          refine r_I (.inr ⟨by decide, by decide⟩) ?_
          walk_at "rd"
          refine .inl ⟨_, rfl, ?_⟩
          walk_at "rd"
          refine r_I (by decide) ?_
          walk_at "rd"
          refine r_I ⟨by decide, by decide⟩ ?_
          walk_at "rd"
          refine .inl ⟨_, rfl, ?_⟩
          walk_at "rd"
          refine r_I hn ?_
          exact k _ _ (Int.emod_nonneg _ (by omega)) (Int.emod_lt_of_pos _ hn) s2 ⟨⟨_, _, _, hp2, by omega, hd, h0, h1⟩, hq2, nn⟩
end
end Kn
set_option Elab.async false
set_option linter.all false
set_option maxRecDepth 100000
set_option maxHeartbeats 4000000
namespace Kn
open PySem PySem.Spec PyProof.Rows L2
local macro_rules | `(tactic| walk_at "hp") => `(tactic| first | assumption | exact upd_same | (rw [upd_ne (by assumption)]; walk_at "hp"))
local macro_rules | `(tactic| walk_at "r1") => `(tactic| first
  | with_reducible refine r_seq ?_
  | with_reducible refine r_asg ?_
  | (with_reducible refine r_name ?_; try dsimp only [List.set_cons_succ, List.set_cons_zero])
  | ((with_reducible refine' r_var (v := ?v1) ?h1 ?q1); (case h1 => exact rfl))
  | with_reducible refine r_c ?_
  | with_reducible refine r_op ?_
  | with_reducible refine r_un ?_
  | with_reducible refine r_I0 ?_
  | with_reducible refine r_U ?_
  | with_reducible refine r_ret ?_
  | with_reducible refine r_retN ?_
  | with_reducible refine r_drop ?_
  | with_reducible refine r_next ?_
  | with_reducible refine r_brk ?_
  | with_reducible refine r_cons ?_
  | with_reducible refine r_nil ?_
  | with_reducible refine r_cb ?_
  | with_reducible refine r_ckw ?_
  | with_reducible refine r_test ?_
  | with_reducible refine r_B ?_
  | with_reducible refine r_blN ?_
  | with_reducible refine r_bl ?_
  | with_reducible refine r_ifS ?_
  | with_reducible refine r_if ?_
  | with_reducible refine r_not ?_
  | with_reducible refine r_and ?_
  | with_reducible refine r_or ?_
  | with_reducible refine r_andV ?_
  | with_reducible refine r_andB ?_
  | with_reducible refine r_notV ?_
  | with_reducible refine r_notB ?_
  | with_reducible refine r_call ?_
  | with_reducible refine r_make ?_
  | with_reducible refine r_meth ?_
  | with_reducible refine r_fld ?_
  | with_reducible refine r_tup ?_
  | with_reducible refine r_lst ?_
  | with_reducible refine r_sub ?_
  | with_reducible refine r_sl ?_
  | with_reducible refine r_nop ?_
  | with_reducible refine r_part ?_
  | with_reducible refine r_pti ?_
  | with_reducible refine r_bm ?_
  | with_reducible refine r_m1 ?_
  | with_reducible refine r_m1s ?_
  | with_reducible refine r_dget ?_
  | with_reducible refine r_eq ?_
  | with_reducible refine r_ne ?_
  | with_reducible refine r_eqS ?_
  | with_reducible refine r_neS ?_
  | with_reducible refine r_for ?_
  | with_reducible refine r_lc ?_
  | with_reducible refine r_yes ?_
  | with_reducible refine r_iStr ?_
  | with_reducible refine r_iList ?_
  | with_reducible refine r_iTup ?_
  | with_reducible refine r_iSq ?_
  | with_reducible refine r_iRng ?_
  | with_reducible refine r_iEnumQ ?_
  | with_reducible refine r_iEnumS ?_
  | with_reducible refine r_iEnum ?_
  | with_reducible refine r_iZip ?_
  | with_reducible refine r_tr ?_
  | with_reducible refine r_iSqK ?_
  | with_reducible refine r_fldS ?_
  | with_reducible refine r_dput ?_
  | with_reducible refine r_din ?_
  | with_reducible refine r_gcons ?_
  | with_reducible refine r_gnil ?_
  | with_reducible refine r_gtup upd_same rfl ?_
  | with_reducible refine r_chain ?_
  | with_reducible refine iteT ?_
  | with_reducible refine iteF ?_)
local macro_rules | `(tactic| walk_at "wp") => `(tactic| dsimp only [wipe, List.map_cons, List.map_nil, List.set_cons_succ, List.set_cons_zero])
local macro_rules | `(tactic| walk_at "rd") => `(tactic| repeat (walk_at "r1"))
local macro_rules | `(tactic| walk_at "rd0") => `(tactic| (simp only [L2.start, List.map_cons, List.map_nil, List.length_cons, List.length_nil, Nat.reduceAdd, Nat.reduceSub, List.replicate_succ, List.replicate_zero, List.nil_append, List.cons_append]; repeat (walk_at "r1")))
local macro_rules | `(tactic| walk_at "wp") => `(tactic| dsimp only [wipe, List.map_cons, List.map_nil, List.set_cons_succ, List.set_cons_zero])
/-! ### mask_of -/
def lastAt (m i : Nat) : Int := if i = 0 then -1 else ((cd m).getD (i - 1) 0 : Nat)
def sumTo (m i : Nat) : Nat := (((cd m).take i).map (2 ^ ·)).sum
theorem cd_facts : ∀ m < 16, ∀ i < 8, i < (cd m).length → (cd m).getD i 0 < 8 ∧ lastAt m i < ((cd m).getD i 0 : Nat) ∧ sumTo m (i + 1) = sumTo m i + 2 ^ (cd m).getD i 0 := by decide +kernel
theorem cd_end : ∀ m < 16, sumTo m (cd m).length = m := by decide +kernel
theorem cd_len : ∀ m < 16, (cd m).length ≤ 4 := by decide +kernel
theorem txt_at {m i c : Nat} (h : (txt m).cps[i]? = some c) : i < (cd m).length ∧ c = 97 + (cd m).getD i 0 := by
  unfold txt at h
  rw [List.getElem?_toArray, List.getElem?_map] at h
  cases e : (cd m)[i]? with
  | none => rw [e] at h; cases h
  | some j =>
    rw [e] at h
    have h1 := (List.getElem?_eq_some_iff.mp e).1
    refine ⟨h1, ?_⟩
    rw [List.getD_eq_getElem?_getD, e]
    exact (Option.some.inj h).symm
theorem txt_size (m : Nat) : (txt m).cps.size = (cd m).length := by
  unfold txt
  rw [List.size_toArray, List.length_map]
def spMask : Sp := fun vs H Q _ => ∃ m : Nat, vs = [tv m] ∧ m < 16 ∧ Q (.int (m : Int)) H
section
variable {P : Program} {w : World} {K : PySem.W.Frag} {mg : Str → Option Value} {base : Heap}
theorem c_mask (W : TW K mg) : Cal P w K mg base 1 "mask_of" P_mask_of spMask := by
  obtain ⟨fd, F⟩ := W.f_mask_of
  refine ⟨_, fd, W.g_mask_of, F.kp, F.bindsN (fun _ _ _ _ _ _ us hl => match us, hl with | [_], _ => rfl), okN F sc_mask_of (fun vs H Q E h => ?_) (fun cdv A outer s H vs Q E hr h => ?_)⟩
  · obtain ⟨m, rfl, _⟩ := h
    rfl
  · have hu := hu_of hr
    obtain ⟨m, rfl, hm, k⟩ := h
    refine ⟨_, (pss_cons (ps_set (i := 1) sc_mask_of.nd rfl (Or.inl rfl) pe_int)
  (pss_cons (ps_set (i := 2) sc_mask_of.nd rfl (Or.inl rfl) (pe_un un_neg pe_int))
  (pss_cons (ps_for PassesOwn.never rfl (pi_str (pv 0)) (pg_name (i := 3) sc_mask_of.nd rfl (Or.inl rfl))
   (pss_cons (ps_set (i := 4) sc_mask_of.nd rfl (Or.inl rfl) (pe_m1 PySem.F.slot_str_find PySem.F.type_str_find mt_find (pe_gstr rfl W.v_LETTERS) (pv 3)))
  (pss_cons (ps_if (pt_cmpR op_le (pv 4) (pv 2) (nomark _))
   (pss_one ps_never)
   pss_nil)
  (pss_cons (ps_aug (i := 1) sc_mask_of.nd rfl (Or.inl rfl) (pe_op op_shl pe_int (pv 4)) ip_add)
  (pss_one (ps_set (i := 2) sc_mask_of.nd rfl (Or.inl rfl) (pv 4)))))))
  (pss_one (ps_ret (pv 1)))))), ?_⟩
    walk_at "rd0"
    refine ⟨_, rfl, for_w walk_str (fun i σ H' => H' = H ∧ ∃ v3 v4, σ = [some (tv m), some (.int (sumTo m i : Nat)), some (.int (lastAt m i)), v3, v4]) (by exact ⟨rfl, none, none, rfl⟩) (fun _ _ _ _ _ => trivial) ?_ ?_⟩
    · rintro i x σ H1 H2 hi ⟨rfl, v3, v4, rfl⟩ ⟨rfl, c, hc, rfl⟩
      obtain ⟨hl, rfl⟩ := txt_at hc
      obtain ⟨f1, f2, f3⟩ := cd_facts m hm i (by have := cd_len m hm; omega) hl
      walk_at "rd"
      refine ⟨_, _, rfl, rfl, ?_⟩
      have ef : Txt.find (Str.ofString "abcdefgh") ⟨#[97 + (cd m).getD i 0]⟩ = (((cd m).getD i 0 : Nat) : Int) := t_find _ f1
      rw [ef]
      walk_at "rd"
      refine iteD (fun c => absurd c (by omega)) (fun _ => ?_)
      walk_at "rd"
      refine ⟨_, rfl, ?_⟩
      walk_at "rd"
      refine r_I ⟨by omega, by omega, by decide⟩ ?_
      refine ⟨_, _, rfl, rfl, ?_⟩
      walk_at "rd"
      have e1 : ((sumTo m i : Nat) : Int) + 1 * 2 ^ (((cd m).getD i 0 : Nat) : Int).toNat = ((sumTo m (i + 1) : Nat) : Int) := by
        rw [f3, Int.natCast_add, Int.natCast_pow, Int.one_mul, Int.toNat_natCast]
        rfl
      rw [e1]
      exact ⟨rfl, _, _, rfl⟩
    · rintro σ H1 ⟨rfl, v3, v4, rfl⟩
      rw [txt_size, cd_end m hm]
      walk_at "rd"
      exact k
/-! ### the program's texts -/
theorem asc_find : ∀ v < 5, ∀ m < 2 ^ v, ∀ i < 8, i < (cd m).length → Txt.find (txt (2 ^ v - 1)) (lt ((cd m).getD i 0)) = (((cd m).getD i 0 : Nat) : Int) := by decide +kernel
theorem cd_asc : ∀ m < 16, ∀ i < 8, i + 1 < (cd m).length → (cd m).getD i 0 < (cd m).getD (i + 1) 0 := by decide +kernel
def spAsc : Sp := fun vs H Q _ => ∃ v m : Nat, vs = [tv m, tv (2 ^ v - 1)] ∧ v < 5 ∧ m < 2 ^ v ∧ ∀ H', Same H H' → Q (.bl true) H'
theorem pow16 {v m : Nat} (hv : v < 5) (hm : m < 2 ^ v) : m < 16 :=
  Nat.lt_of_lt_of_le hm (Nat.pow_le_pow_right (n := 2) (by decide) (by omega : v ≤ 4))
theorem all_true (n : Nat) : ((List.range n).map fun _ => V.bl true) = (List.replicate n true).map V.bl := by
  rw [List.map_replicate, List.map_const', List.length_range]
theorem all_rep (n : Nat) : (List.replicate n true).all id = true := by
  rw [List.all_eq_true]
  intro x hx
  exact (List.mem_replicate.mp hx).2
theorem cut_tail (xs : List V) : cutV xs (some 1) none = xs.drop 1 := by
  unfold cutV
  cases xs with
  | nil => rfl
  | cons a r =>
    have h1 : HT.sIx (a :: r).length 0 (some 1) = 1 := by
      unfold HT.sIx
      simp
    have h2 : HT.sIx (a :: r).length (a :: r).length none = (a :: r).length := rfl
    rw [h1, h2]
    exact List.take_of_length_le (by simp)
theorem c_asc (W : TW K mg) : Cal P w K mg base 1 "is_ascending" P_is_ascending spAsc := by
  obtain ⟨fd, F⟩ := W.f_is_ascending
  refine ⟨_, fd, W.g_is_ascending, F.kp, F.bindsN (fun _ _ _ _ _ _ us hl => match us, hl with | [_, _], _ => rfl), okN F sc_is_ascending (fun vs H Q E h => ?_) (fun cdv A outer s H vs Q E hr h => ?_)⟩
  · obtain ⟨v, m, rfl, _⟩ := h
    rfl
  · have hu := hu_of hr
    obtain ⟨v, m, rfl, hv, hm, k⟩ := h
    have h16 := pow16 hv hm
    have hl4 := cd_len m h16
    refine ⟨_, (pss_cons (ps_setLc (i := 2) (own := [("letter", 3)]) (by rfl) sc_is_ascending.nd rfl rfl (sw_true rfl rfl rfl (by decide +kernel)) (pi_str (pv 0)) (blkOk_by (own := [("letter", 3)]) (by first | decide +kernel | kernel_rfl)) (fun _ _ _ _ _ => (pg_name (i := 3) sc_is_ascending.nd rfl (Or.inl rfl))) (fun _ _ _ _ _ => pts_nil) (fun _ _ _ _ _ => (pe_m1 PySem.F.slot_str_find PySem.F.type_str_find mt_find (pv 1) (pv 3))))
  (pss_one (ps_ret (pe_and (pe_callB (allK K) rfl W.z_all (by decide +kernel) (pa_cons (pe_lc (own := [("place", 4)]) rfl sc_is_ascending.nd (pi_listK K (pv 2)) (blkOk_by (own := [("place", 4)]) (by first | decide +kernel | kernel_rfl)) (fun _ _ _ _ _ => (pg_name (i := 4) sc_is_ascending.nd rfl (Or.inl rfl))) (fun _ _ _ _ _ => pts_nil) (fun _ _ _ _ _ => (pe_cmpR op_ge (pv 4) pe_int (nomark _)))) pa_nil)) (pe_one (pe_callB (allK K) rfl W.z_all (by decide +kernel) (pa_cons (pe_lc (own := [("one", 5), ("two", 6)]) (g := gTup K 2 (gCons (gName 5) (gCons (gName 6) gNil))) rfl sc_is_ascending.nd (pi_zipK K W.z_zip (pa_cons (pv 2) (pa_cons (pe_slice (slL K) (pv 2) (po_some pe_int) po_none) pa_nil))) (blkOk_by (own := [("one", 5), ("two", 6)]) (by first | decide +kernel | kernel_rfl)) (fun _ _ _ _ _ => (pg_tupK K rfl (pgs_cons (pg_name (i := 5) sc_is_ascending.nd rfl (Or.inl rfl)) (pgs_cons (pg_name (i := 6) sc_is_ascending.nd rfl (Or.inl rfl)) pgs_nil)))) (fun _ _ _ _ _ => pts_nil) (fun _ _ _ _ _ => (pe_cmpR op_lt (pv 5) (pv 6) (nomark _)))) pa_nil))))))), ?_⟩
    walk_at "rd0"
    refine ⟨_, rfl, fun D hD => lc_all walk_str ySame_str (by rw [txt_size]; omega) hD (fun i => .int (((cd m).getD i 0 : Nat) : Int)) (fun _ _ => trivial) ?_ fun H1 s1 e1 => ?_⟩
    · rintro i x Hc H' R E hi s ⟨rfl, c, hc, rfl⟩ hR
      obtain ⟨hl, rfl⟩ := txt_at hc
      walk_at "wp"
      walk_at "rd"
      refine ⟨rfl, ?_⟩
      walk_at "rd"
      refine ⟨_, _, rfl, rfl, ?_⟩
      have ef := asc_find v hv m hm i (by omega) hl
      unfold lt at ef
      rw [ef]
      exact hR _ (Same.refl _)
    · walk_at "rd"
      rw [txt_size] at e1
      refine ⟨D, rfl, ⟨_, SqL.of e1⟩, fun D2 hD2 => lc_all walk_list ySame_at (by rw [List.length_map, List.length_range]; omega) hD2 (fun i => .bl true) (fun H2 s2 => SqL.of (s2 _ _ e1)) ?_ fun H2 s2 e2 => ?_⟩
      · rintro i x Hc H' R E hi s ⟨rfl, hx⟩ hR
        rw [List.getElem?_map] at hx
        rw [List.length_map, List.length_range] at hi
        rw [List.getElem?_range hi] at hx
        cases hx
        walk_at "wp"
        walk_at "rd"
        refine ⟨rfl, ?_⟩
        walk_at "rd"
        rw [decide_eq_true (by omega)]
        exact hR _ (Same.refl _)
      · walk_at "rd"
        rw [List.length_map, List.length_range, all_true] at e2
        refine ⟨D2, _, rfl, SqL.of e2, ?_⟩
        rw [all_rep]
        walk_at "rd"
        refine ⟨_, rfl, ?_⟩
        walk_at "rd"
        refine ⟨D, _, rfl, SqL.of (s2 _ _ e1), fun D3 hD3 => ?_⟩
        walk_at "rd"
        have e1' := (same_new (o := .lst (cutV ((List.range (cd m).length).map fun i => V.int (((cd m).getD i 0 : Nat) : Int)) (some 1) none)) hD3) _ _ (s2 _ _ e1)
        refine ⟨D, D3, _, _, rfl, SqL.of e1', SqL.of upd_same, fun D4 hD4 => lc_all (walk_zip rfl) ySame_pair (by rw [List.length_map, List.length_range]; omega) hD4 (fun i => .bl true) (fun H3 s3 => ⟨SqL.of (s3 _ _ e1'), SqL.of (s3 _ _ upd_same)⟩) ?_ fun H3 s3 e3 => ?_⟩
        · rintro i x Hc H' R E hi s ⟨T, a, b, rfl, hn, rfl, ha, hb⟩ hR
          have el : (cutV ((List.range (cd m).length).map fun i => V.int (((cd m).getD i 0 : Nat) : Int)) (some 1) none) = ((List.range (cd m).length).map fun i => V.int (((cd m).getD i 0 : Nat) : Int)).drop 1 := cut_tail _
          dsimp only at ha hb
          rw [el] at hb hi
          rw [List.length_drop, List.length_map, List.length_range] at hi
          rw [List.getElem?_map, List.getElem?_range (by omega)] at ha
          rw [List.getElem?_drop, List.getElem?_map, List.getElem?_range (by omega)] at hb
          cases ha
          cases hb
          walk_at "wp"
          walk_at "rd"
          walk_at "wp"
          refine ⟨rfl, ?_⟩
          walk_at "rd"
          have q := cd_asc m h16 i (by omega) (by omega)
          rw [Nat.add_comm i 1] at q
          rw [decide_eq_true (by omega)]
          exact hR _ (Same.refl _)
        · walk_at "rd"
          rw [all_true] at e3
          refine ⟨D4, _, rfl, SqL.of e3, ?_⟩
          rw [all_rep]
          exact k _ (((s1.trans s2).trans (same_new hD3)).trans s3)
theorem txt_ne : ∀ m < 16, 1 ≤ m → txt m ≠ Str.empty := by decide +kernel
theorem txt_ne' : ∀ m < 16, (decide (txt m = Str.empty)) = decide (m = 0) := by decide +kernel
def spIsMsg : Sp := fun vs H Q _ => ∃ v m : Nat, vs = [.int (v : Nat), tv m] ∧ v < 5 ∧ 1 ≤ m ∧ m < 2 ^ v ∧ ∀ H', Same H H' → Q (.bl true) H'
theorem c_ismsg (W : TW K mg) : Cal P w K mg base 2 "is_message" P_is_message spIsMsg := by
  have c_is_ascending := c_asc (P := P) (w := w) (base := base) W
  obtain ⟨fd, F⟩ := W.f_is_message
  refine ⟨_, fd, W.g_is_message, F.kp, F.bindsN (fun _ _ _ _ _ _ us hl => match us, hl with | [_, _], _ => rfl), okN F sc_is_message (fun vs H Q E h => ?_) (fun cdv A outer s H vs Q E hr h => ?_)⟩
  · obtain ⟨v, m, rfl, _⟩ := h
    rfl
  · have hu := hu_of hr
    obtain ⟨v, m, rfl, hv, h1, hm, k⟩ := h
    have h16 := pow16 hv hm
    refine ⟨_, (pss_one (ps_ret (pe_and (pe_cmpR op_ne (pv 1) pe_str (nomark _)) (pe_one (pe_cal c_is_ascending (hr.mono (by decide)) (pa_cons (pv 1) (pa_cons (pe_slice sl_str (pe_gstr rfl W.v_VARIABLE_LETTERS) po_none (po_some (pv 0))) pa_nil))))))), ?_⟩
    walk_at "rd0"
    have e1 : decide (txt m = Str.ofString "") = false := decide_eq_false (txt_ne m h16 h1)
    rw [e1]
    refine iteT ?_
    walk_at "rd"
    refine ⟨_, rfl, ?_⟩
    walk_at "rd"
    refine ⟨_, rfl, (by decide), ?_⟩
    walk_at "rd"
    have ec : cutS (Str.ofString "abcdef") none (some ((v : Nat) : Int)) = txt (2 ^ v - 1) := t_cut v (by omega)
    rw [ec]
    exact ⟨v, m, rfl, hv, hm, k⟩
def spIsLink : Sp := fun vs H Q _ => ∃ (n : Nat) (l : Nat × Nat), vs = [.int (n : Nat), .str (lk l)] ∧ n < 5 ∧ l.1 < n ∧ l.2 < n ∧ l.1 ≠ l.2 ∧ ∀ H', Same H H' → Q (.bl true) H'
theorem n_in : ∀ n < 5, ∀ i < n, decide (65 + i ∈ (nset (2 ^ n - 1)).cps.toList) = true := by decide +kernel
theorem nl_ne {a b : Nat} (h : a ≠ b) : decide ((⟨#[65 + a]⟩ : Str) = ⟨#[65 + b]⟩) = false := by
  refine decide_eq_false fun e => h ?_
  have e1 := congrArg Str.cps e
  simpa using e1
theorem lk_0 (l : Nat × Nat) : (lk l).cps.toList[0]? = some (65 + l.1) := rfl
theorem lk_1 (l : Nat × Nat) : (lk l).cps.toList[1]? = some (65 + l.2) := rfl
theorem lk_len (l : Nat × Nat) : (lk l).length ≤ sizeLine := by show 2 ≤ sizeLine; decide
theorem c_islink (W : TW K mg) : Cal P w K mg base 1 "is_link" P_is_link spIsLink := by
  obtain ⟨fd, F⟩ := W.f_is_link
  refine ⟨_, fd, W.g_is_link, F.kp, F.bindsN (fun _ _ _ _ _ _ us hl => match us, hl with | [_, _], _ => rfl), okN F sc_is_link (fun vs H Q E h => ?_) (fun cdv A outer s H vs Q E hr h => ?_)⟩
  · obtain ⟨n, l, rfl, _⟩ := h
    rfl
  · have hu := hu_of hr
    obtain ⟨n, l, rfl, hn, h1, h2, h3, k⟩ := h
    refine ⟨_, (pss_cons (ps_set (i := 2) sc_is_link.nd rfl (Or.inl rfl) (pe_slice sl_str (pe_gstr rfl W.v_NODE_LETTERS) po_none (po_some (pv 0))))
  (pss_one (ps_ret (pe_and (pe_cmpR op_eq (pe_callB (lenK K) rfl W.z_len PySem.boot_len (pa_cons (pv 1) pa_nil)) pe_int (nomark _)) (pe_and (pe_cmpR op_in_sign (pe_ix ix_str (pv 1) pe_int (fun _ _ => rfl)) (pv 2) rfl) (pe_and (pe_cmpR op_in_sign (pe_ix ix_str (pv 1) pe_int (fun _ _ => rfl)) (pv 2) rfl) (pe_one (pe_cmpR op_ne (pe_ix ix_str (pv 1) pe_int (fun _ _ => rfl)) (pe_ix ix_str (pv 1) pe_int (fun _ _ => rfl)) (nomark _))))))))), ?_⟩
    walk_at "rd0"
    refine ⟨_, rfl, ?_⟩
    walk_at "rd"
    refine ⟨_, rfl, (by decide), ?_⟩
    walk_at "rd"
    have ec : cutS (Str.ofString "ABCDEF") none (some ((n : Nat) : Int)) = nset (2 ^ n - 1) := n_cut n (by omega)
    rw [ec]
    refine ⟨_, 2, rfl, ⟨lk_len l, rfl⟩, ?_⟩
    walk_at "rd"
    rw [decide_eq_true (show ((2 : Nat) : Int) = 2 from rfl)]
    walk_at "rd"
    refine r_ixS (lk_len l) 0 rfl (lk_0 l) ?_
    walk_at "rd"
    refine ⟨_, _, rfl, rfl, ?_⟩
    rw [n_in n hn _ h1]
    walk_at "rd"
    refine r_ixS (lk_len l) 1 rfl (lk_1 l) ?_
    walk_at "rd"
    refine ⟨_, _, rfl, rfl, ?_⟩
    rw [n_in n hn _ h2]
    walk_at "rd"
    refine r_ixS (lk_len l) 0 rfl (lk_0 l) ?_
    walk_at "rd"
    refine r_ixS (lk_len l) 1 rfl (lk_1 l) ?_
    walk_at "rd"
    rw [nl_ne h3]
    exact k _ (Same.refl _)
/-! ### text_of -/
def spText : Sp := fun vs H Q _ => ∃ m : Nat, vs = [.int (m : Nat)] ∧ m < 16 ∧ ∀ H', Same H H' → Q (tv m) H'
theorem bit_and1 (m i : Nat) : Builtin.bitAnd ((m : Int) / 2 ^ (((i : Nat) : Int)).toNat) 1 = (((m >>> i) % 2 : Nat) : Int) := by
  have e1 : ((m : Int) / 2 ^ (((i : Nat) : Int)).toNat) = ((m >>> i : Nat) : Int) := by
    rw [Int.toNat_natCast, Nat.shiftRight_eq_div_pow, Int.natCast_ediv, Int.natCast_pow]
    rfl
  have e2 := Bits.bitAnd_mask (x := ((m >>> i : Nat) : Int)) 1 (Int.natCast_nonneg _)
  rw [e1]
  have e3 : ((2 : Int) ^ 1 - 1) = 1 := rfl
  have e4 : ((2 : Int) ^ 1) = 2 := rfl
  rw [e3, e4] at e2
  rw [e2, Int.natCast_emod]
  rfl
theorem bit_true (m i : Nat) : ((((m >>> i) % 2 : Nat) : Int) != 0) = m.testBit i := by
  rw [Nat.testBit_eq_decide_div_mod_eq, Nat.shiftRight_eq_div_pow]
  have h := Nat.mod_lt (m / 2 ^ i) (show 0 < 2 by decide)
  by_cases c : m / 2 ^ i % 2 = 1
  · rw [c, decide_eq_true rfl]
    rfl
  · have c0 : m / 2 ^ i % 2 = 0 := by omega
    rw [c0]
    rfl
theorem abc_at : ∀ i < 8, (Str.ofString "abcdefgh").cps[i]? = some (97 + i) := by decide +kernel
theorem join_cd (m : Nat) (h : m < 256) : Txt.join Str.empty (((List.range 8).filter fun i => m.testBit i).map lt) = txt m := t_join m h
theorem c_text (W : TW K mg) : Cal P w K mg base 1 "text_of" P_text_of spText := by
  obtain ⟨fd, F⟩ := W.f_text_of
  refine ⟨_, fd, W.g_text_of, F.kp, F.bindsN (fun _ _ _ _ _ _ us hl => match us, hl with | [_], _ => rfl), okN F sc_text_of (fun vs H Q E h => ?_) (fun cdv A outer s H vs Q E hr h => ?_)⟩
  · obtain ⟨m, rfl, _⟩ := h
    rfl
  · have hu := hu_of hr
    obtain ⟨m, rfl, hm, k⟩ := h
    refine ⟨_, (pss_one (ps_ret (pe_m1 PySem.F.slot_str_join PySem.F.type_str_join (joinK K) pe_str (pe_lc (own := [("place", 1), ("letter", 2)]) (g := gTup K 2 (gCons (gName 1) (gCons (gName 2) gNil))) rfl sc_text_of.nd (pi_enumS rfl W.z_enumerate (pa_cons (pe_gstr rfl W.v_LETTERS) pa_nil)) (blkOk_by (own := [("place", 1), ("letter", 2)]) (by first | decide +kernel | kernel_rfl)) (fun _ _ _ _ _ => (pg_tupK K rfl (pgs_cons (pg_name (i := 1) sc_text_of.nd rfl (Or.inl rfl)) (pgs_cons (pg_name (i := 2) sc_text_of.nd rfl (Or.inl rfl)) pgs_nil)))) (fun _ _ _ _ _ => (pts_one (pt_truthK K (pe_op op_and (pe_op op_shr (pv 0) (pv 1)) pe_int)))) (fun _ _ _ _ _ => (pv 2)))))), ?_⟩
    walk_at "rd0"
    refine ⟨_, rfl, fun J w D hD => lc_pure w ySame_pair (by show 8 < 16777216; decide) hD (fun i => m.testBit i) (fun i => .str (lt i)) (fun _ _ => trivial) ?_ fun H1 s1 e1 => ?_⟩
    · rintro i x Hc H' R E hi s ⟨T, a, b, rfl, hn, rfl, ha, hb⟩ hR hE
      have hi8 : i < 8 := hi
      cases ha
      dsimp only at hb
      rw [abc_at i hi8] at hb
      cases hb
      walk_at "wp"
      walk_at "rd"
      walk_at "wp"
      refine ⟨rfl, ?_⟩
      walk_at "rd"
      refine r_I (Int.natCast_nonneg _) ?_
      walk_at "rd"
      rw [bit_and1]
      refine ⟨_, rfl, ?_⟩
      rw [bit_true]
      cases c : m.testBit i with
      | true =>
        walk_at "rd"
        exact hR c _ (Same.refl _)
      | false =>
        walk_at "rd"
        exact hE c _ (Same.refl _)
    · have e1' : H1 D = some (.lst ((((List.range 8).filter fun i => m.testBit i).map lt).map V.str)) := by rw [e1, List.map_map]; rfl
      refine ⟨_, D, _, rfl, rfl, .inl (SqL.of e1'), ?_, ?_⟩
      · have q : ((List.range 8).filter fun i => m.testBit i).length ≤ 8 := by
          have := List.length_filter_le (fun i => m.testBit i) (List.range 8)
          simpa using this
        have q2 : ((((List.range 8).filter fun i => m.testBit i).map lt).map (·.length)).sum ≤ 8 := by
          rw [List.map_map]
          have : ∀ l : List Nat, (l.map ((·.length) ∘ lt)).sum = l.length := fun l => by
            induction l with
            | nil => rfl
            | cons a r ih => rw [List.map_cons, List.sum_cons, ih, List.length_cons]; show 1 + r.length = _; omega
          rw [this]
          exact q
        have q3 : (Str.ofString "").length = 0 := rfl
        rw [q3]
        omega
      · have ej : Txt.join (Str.ofString "") (((List.range 8).filter fun i => m.testBit i).map lt) = txt m := join_cd m (by omega)
        rw [ej]
        exact k _ s1
end
end Kn
set_option Elab.async false
set_option linter.all false
set_option maxRecDepth 100000
set_option maxHeartbeats 4000000
namespace Kn
open PySem PySem.Spec PyProof.Rows L2
local macro_rules | `(tactic| walk_at "hp") => `(tactic| first | assumption | exact upd_same | (rw [upd_ne (by assumption)]; walk_at "hp"))
local macro_rules | `(tactic| walk_at "r1") => `(tactic| first
  | with_reducible refine r_seq ?_
  | with_reducible refine r_asg ?_
  | (with_reducible refine r_name ?_; try dsimp only [List.set_cons_succ, List.set_cons_zero])
  | ((with_reducible refine' r_var (v := ?v1) ?h1 ?q1); (case h1 => exact rfl))
  | with_reducible refine r_c ?_
  | with_reducible refine r_op ?_
  | with_reducible refine r_un ?_
  | with_reducible refine r_I0 ?_
  | with_reducible refine r_U ?_
  | with_reducible refine r_ret ?_
  | with_reducible refine r_retN ?_
  | with_reducible refine r_drop ?_
  | with_reducible refine r_next ?_
  | with_reducible refine r_brk ?_
  | with_reducible refine r_cons ?_
  | with_reducible refine r_nil ?_
  | with_reducible refine r_cb ?_
  | with_reducible refine r_ckw ?_
  | with_reducible refine r_test ?_
  | with_reducible refine r_B ?_
  | with_reducible refine r_blN ?_
  | with_reducible refine r_bl ?_
  | with_reducible refine r_ifS ?_
  | with_reducible refine r_if ?_
  | with_reducible refine r_not ?_
  | with_reducible refine r_and ?_
  | with_reducible refine r_or ?_
  | with_reducible refine r_andV ?_
  | with_reducible refine r_andB ?_
  | with_reducible refine r_notV ?_
  | with_reducible refine r_notB ?_
  | with_reducible refine r_call ?_
  | with_reducible refine r_make ?_
  | with_reducible refine r_meth ?_
  | with_reducible refine r_fld ?_
  | with_reducible refine r_tup ?_
  | with_reducible refine r_lst ?_
  | with_reducible refine r_sub ?_
  | with_reducible refine r_sl ?_
  | with_reducible refine r_nop ?_
  | with_reducible refine r_part ?_
  | with_reducible refine r_pti ?_
  | with_reducible refine r_bm ?_
  | with_reducible refine r_m1 ?_
  | with_reducible refine r_m1s ?_
  | with_reducible refine r_dget ?_
  | with_reducible refine r_eq ?_
  | with_reducible refine r_ne ?_
  | with_reducible refine r_eqS ?_
  | with_reducible refine r_neS ?_
  | with_reducible refine r_for ?_
  | with_reducible refine r_lc ?_
  | with_reducible refine r_yes ?_
  | with_reducible refine r_iStr ?_
  | with_reducible refine r_iList ?_
  | with_reducible refine r_iTup ?_
  | with_reducible refine r_iSq ?_
  | with_reducible refine r_iRng ?_
  | with_reducible refine r_iEnumQ ?_
  | with_reducible refine r_iEnumS ?_
  | with_reducible refine r_iEnum ?_
  | with_reducible refine r_iZip ?_
  | with_reducible refine r_tr ?_
  | with_reducible refine r_iSqK ?_
  | with_reducible refine r_fldS ?_
  | with_reducible refine r_dput ?_
  | with_reducible refine r_din ?_
  | with_reducible refine r_gcons ?_
  | with_reducible refine r_gnil ?_
  | with_reducible refine r_gtup upd_same rfl ?_
  | with_reducible refine r_chain ?_
  | with_reducible refine iteT ?_
  | with_reducible refine iteF ?_)
local macro_rules | `(tactic| walk_at "wp") => `(tactic| dsimp only [wipe, List.map_cons, List.map_nil, List.set_cons_succ, List.set_cons_zero])
local macro_rules | `(tactic| walk_at "rd") => `(tactic| repeat (walk_at "r1"))
local macro_rules | `(tactic| walk_at "rd0") => `(tactic| (simp only [L2.start, List.map_cons, List.map_nil, List.length_cons, List.length_nil, Nat.reduceAdd, Nat.reduceSub, List.replicate_succ, List.replicate_zero, List.nil_append, List.cons_append]; repeat (walk_at "r1")))
local macro_rules | `(tactic| walk_at "wp") => `(tactic| dsimp only [wipe, List.map_cons, List.map_nil, List.set_cons_succ, List.set_cons_zero])
/-! ### Span -/
abbrev CS (K : PySem.W.Frag) : Addr := He.ga K "Span"
abbrev iv (r : Nat) : V := .int (r : Int)
structure SpanAt (K : PySem.W.Frag) (H : Hp) (s l : Addr) (rows : List Nat) : Prop where
  ins : ∃ dx, H s = some (.ins (CS K) dx [("rows", .ref l)])
  lst : H l = some (.lst (rows.map iv))
/-- all but these is as it was -/
structure Kx (xs : List Addr) (H H' : Hp) : Prop where
  keep : ∀ b o, b ∉ xs → H b = some o → H' b = some o
  dom : ∀ b, H' b = none → H b = none
def spLeft (K : PySem.W.Frag) : Sp := fun vs H Q _ => ∃ (s l : Addr) (rows : List Nat) (x : Nat), vs = [.ref s, iv x] ∧ SpanAt K H s l rows ∧ Q (iv (leftF rows x)) H
def spHas (K : PySem.W.Frag) : Sp := fun vs H Q _ => ∃ (s l : Addr) (rows : List Nat) (x : Nat), vs = [.ref s, iv x] ∧ SpanAt K H s l rows ∧ Q (.bl (leftF rows x == 0)) H
def spRank (K : PySem.W.Frag) : Sp := fun vs H Q _ => ∃ (s l : Addr) (rows : List Nat), vs = [.ref s] ∧ SpanAt K H s l rows ∧ Q (iv rows.length) H
def spAdd (K : PySem.W.Frag) : Sp := fun vs H Q _ => ∃ (s l : Addr) (rows : List Nat) (x : Nat), vs = [.ref s, iv x] ∧ SpanAt K H s l rows ∧ rows ∈ ech ∧ x < 16 ∧
  (leftF rows x = 0 → Q (.bl false) H) ∧ (leftF rows x ≠ 0 → ∀ l' H', Kx [s, l] H H' → H l' = none → SpanAt K H' s l' (insD (leftF rows x) rows) → Q (.bl true) H')
section
variable {P : Program} {w : World} {K : PySem.W.Frag} {mg : Str → Option Value} {base : Heap}
theorem xor_iv (a b : Nat) : Builtin.bitXor (a : Int) (b : Int) = ((a ^^^ b : Nat) : Int) := by
  rw [Bits.bitXor_pp (Int.natCast_nonneg _) (Int.natCast_nonneg _)]
  rfl
theorem min_iv (a b : Nat) : (if (b : Int) < (a : Int) then (b : Int) else (a : Int)) = ((min a b : Nat) : Int) := by
  by_cases h : (b : Int) < (a : Int)
  · rw [if_pos h, Nat.min_eq_right (by omega)]
  · rw [if_neg h, Nat.min_eq_left (by omega)]
theorem leftF_take {rows : List Nat} {i r x : Nat} (h : rows[i]? = some r) : leftF (rows.take (i + 1)) x = min (leftF (rows.take i) x) (leftF (rows.take i) x ^^^ r) := by
  unfold leftF
  rw [List.take_add_one, List.foldl_append, h]
  rfl
theorem c_left (W : TW K mg) : MCal P w K mg base 1 (CS K) "left" P_Span_left (spLeft K) := by
  obtain ⟨fd, F⟩ := W.f_Span_left
  refine ⟨_, fd, W.m_Span_left, F.bindsN (fun _ _ _ _ _ _ us hl => match us, hl with | [_, _], _ => rfl), okN F sc_Span_left (fun vs H Q E h => ?_) (fun cdv A outer s H vs Q E hr h => ?_)⟩
  · obtain ⟨s, l, rows, x, rfl, _⟩ := h
    rfl
  · have hu := hu_of hr
    obtain ⟨sp, l, rows, x, rfl, ⟨⟨dx, h1⟩, h2⟩, k⟩ := h
    refine ⟨_, (pss_cons (ps_for PassesOwn.never rfl (pi_listK K (pe_fldK K (pv 0))) (pg_name (i := 2) sc_Span_left.nd rfl (Or.inl rfl))
   (pss_one (ps_set (i := 1) sc_Span_left.nd rfl (Or.inl rfl) (pe_callB (call_min2 rfl) rfl W.z_min (by decide +kernel) (pa_cons (pv 1) (pa_cons (pe_op op_xor (pv 1) (pv 2)) pa_nil))))))
  (pss_one (ps_ret (pv 1)))), ?_⟩
    walk_at "rd0"
    refine ⟨_, _, _, _, _, rfl, h1, W.cls_Span, W.n_Span_rows, rfl, ?_⟩
    refine ⟨_, rfl, ⟨_, SqL.of h2⟩, for_w walk_list (fun i σ H' => H' = H ∧ ∃ v, σ = [some (.ref sp), some (iv (leftF (rows.take i) x)), v]) (by exact ⟨rfl, none, rfl⟩) (fun i σ H' _ q => by rw [q.1]; exact SqL.of h2) ?_ ?_⟩
    · rintro i y σ H1 H2 hi ⟨rfl, v, rfl⟩ ⟨rfl, hy⟩
      rw [List.getElem?_map] at hy
      cases er : rows[i]? with
      | none => rw [er] at hy; cases hy
      | some r =>
        rw [er] at hy
        cases hy
        walk_at "rd"
        refine ⟨_, _, rfl, ?_⟩
        walk_at "rd"
        rw [xor_iv, min_iv]
        exact ⟨rfl, _, by rw [leftF_take er]⟩
    · rintro σ H1 ⟨rfl, v, rfl⟩
      rw [List.length_map, List.take_length]
      walk_at "rd"
      exact k
theorem c_has (W : TW K mg) : MCal P w K mg base 2 (CS K) "has" P_Span_has (spHas K) := by
  have c_Span_left := c_left (P := P) (w := w) (base := base) W
  obtain ⟨fd, F⟩ := W.f_Span_has
  refine ⟨_, fd, W.m_Span_has, F.bindsN (fun _ _ _ _ _ _ us hl => match us, hl with | [_, _], _ => rfl), okN F sc_Span_has (fun vs H Q E h => ?_) (fun cdv A outer s H vs Q E hr h => ?_)⟩
  · obtain ⟨s, l, rows, x, rfl, _⟩ := h
    rfl
  · have hu := hu_of hr
    obtain ⟨sp, l, rows, x, rfl, ⟨⟨dx, h1⟩, h2⟩, k⟩ := h
    refine ⟨_, (pss_one (ps_ret (pe_cmpR op_eq (pe_mcal (pv 0) W.cls_Span c_Span_left (hr.mono (by decide)) (pa_cons (pv 1) pa_nil)) pe_int (nomark _)))), ?_⟩
    walk_at "rd0"
    refine ⟨_, _, _, rfl, h1, rfl, ?_⟩
    walk_at "rd"
    refine ⟨sp, l, rows, x, rfl, ⟨⟨dx, h1⟩, h2⟩, ?_⟩
    walk_at "rd"
    have e : decide (((leftF rows x : Nat) : Int) = 0) = (leftF rows x == 0) := by
      by_cases c : leftF rows x = 0
      · rw [c]; rfl
      · rw [decide_eq_false (by omega)]
        exact (beq_eq_false_iff_ne.mpr c).symm
    rw [e]
    exact k
theorem c_rank (W : TW K mg) : MCal P w K mg base 1 (CS K) "rank" P_Span_rank (spRank K) := by
  obtain ⟨fd, F⟩ := W.f_Span_rank
  refine ⟨_, fd, W.m_Span_rank, F.bindsN (fun _ _ _ _ _ _ us hl => match us, hl with | [_], _ => rfl), okN F sc_Span_rank (fun vs H Q E h => ?_) (fun cdv A outer s H vs Q E hr h => ?_)⟩
  · obtain ⟨s, l, rows, rfl, _⟩ := h
    rfl
  · have hu := hu_of hr
    obtain ⟨sp, l, rows, rfl, ⟨⟨dx, h1⟩, h2⟩, k⟩ := h
    refine ⟨_, (pss_one (ps_ret (pe_callB (lenK K) rfl W.z_len PySem.boot_len (pa_cons (pe_fldK K (pv 0)) pa_nil)))), ?_⟩
    walk_at "rd0"
    refine ⟨_, _, _, _, _, rfl, h1, W.cls_Span, W.n_Span_rows, rfl, ?_⟩
    walk_at "rd"
    refine ⟨_, rows.length, rfl, .inl ⟨_, SqL.of h2, by rw [List.length_map]⟩, k⟩
theorem c_add (W : TW K mg) : MCal P w K mg base 2 (CS K) "add" P_Span_add (spAdd K) := by
  have c_Span_left := c_left (P := P) (w := w) (base := base) W
  obtain ⟨fd, F⟩ := W.f_Span_add
  refine ⟨_, fd, W.m_Span_add, F.bindsN (fun _ _ _ _ _ _ us hl => match us, hl with | [_, _], _ => rfl), okN F sc_Span_add (fun vs H Q E h => ?_) (fun cdv A outer s H vs Q E hr h => ?_)⟩
  · obtain ⟨s, l, rows, x, rfl, _⟩ := h
    rfl
  · have hu := hu_of hr
    obtain ⟨sp, l, rows, x, rfl, ⟨⟨dx, h1⟩, h2⟩, he, hx, k0, k1⟩ := h
    refine ⟨_, (pss_cons (ps_set (i := 2) sc_Span_add.nd rfl (Or.inl rfl) (pe_mcal (pv 0) W.cls_Span c_Span_left (hr.mono (by decide)) (pa_cons (pv 1) pa_nil)))
  (pss_cons (ps_if (pt_cmpR op_eq (pv 2) pe_int (nomark _))
   (pss_one (ps_ret pe_bl))
   pss_nil)
  (pss_cons (ps_expr (pe_bmK K PySem.F.plainAttrs_list PySem.F.slot_list_append PySem.F.type_list_append mt_append (pe_fldK K (pv 0)) (pa_cons (pv 2) pa_nil)))
  (pss_cons (ps_fldK K (pv 0) (pe_callBK (sortedRevK (b := true) K) rfl W.z_sorted (by decide +kernel) (pa_cons (pe_fldK K (pv 0)) pa_nil) (pk_cons pe_bl pk_nil)))
  (pss_one (ps_ret pe_bl)))))), ?_⟩
    walk_at "rd0"
    refine ⟨_, _, _, rfl, h1, rfl, ?_⟩
    walk_at "rd"
    refine ⟨sp, l, rows, x, rfl, ⟨⟨dx, h1⟩, h2⟩, ?_⟩
    walk_at "rd"
    refine iteD (fun c => ?_) (fun c => ?_)
    · walk_at "rd"
      exact k0 (by omega)
    · have c0 : leftF rows x ≠ 0 := by omega
      have hls : l ≠ sp := ne_of h2 h1 (by intro q; cases q)
      walk_at "rd"
      refine ⟨_, _, _, _, _, rfl, h1, W.cls_Span, W.n_Span_rows, rfl, ?_⟩
      refine ⟨.inl ⟨rfl, _, SqL.of h2⟩, ?_⟩
      walk_at "rd"
      refine ⟨_, _, _, rfl, rfl, h2, ?_, ?_⟩
      · have := ech_len rows he
        rw [List.length_map]
        have e : sizeLine = 16777216 := sizeLine_eq
        omega
      walk_at "rd"
      have h1' : upd H l (.lst (rows.map iv ++ [iv (leftF rows x)])) sp = some (.ins (CS K) dx [("rows", .ref l)]) := by rw [upd_ne hls.symm]; exact h1
      refine ⟨_, _, _, _, _, rfl, h1', W.cls_Span, W.n_Span_rows, rfl, ?_⟩
      walk_at "rd"
      have el : rows.map iv ++ [iv (leftF rows x)] = ((rows ++ [leftF rows x]).map (fun r : Nat => (r : Int))).map V.int := by
        rw [List.map_map, List.map_append]; rfl
      refine ⟨l, _, rfl, rfl, SqL.of (by rw [upd_same, el]), fun ns' p hp ho hn => ?_⟩
      have hns : ns' = (insD (leftF rows x) rows).map fun r : Nat => (r : Int) := by
        refine List.Perm.eq_of_pairwise (le := fun a b : Int => b ≤ a) (fun a b _ _ h1 h2 => Int.le_antisymm h2 h1) ?_ ?_ (hp.trans ?_)
        · have ho' : ns'.Pairwise (· ≥ ·) := by simpa [OrdB] using ho
          exact ho'
        · rw [List.pairwise_map]
          exact (ech_insdesc rows he x hx c0).imp fun h => by omega
        · refine List.Perm.map _ ?_
          exact ((insD_perm _ rows).trans (List.perm_append_comm (l₁ := [leftF rows x]) (l₂ := rows))).symm
      walk_at "rd"
      have hps : p ≠ sp := fun z => by rw [z, h1'] at hn; cases hn
      have hpl : p ≠ l := fun z => by rw [z, upd_same] at hn; cases hn
      have hpn : H p = none := by rw [upd_ne hpl] at hn; exact hn
      refine ⟨_, _, _, _, rfl, by rw [upd_ne hps.symm]; exact h1', W.cls_Span, W.n_Span_rows, (by show 1 < 1000; decide), ?_⟩
      walk_at "rd"
      refine k1 c0 p _ ⟨fun b o hb e => ?_, fun b e => ?_⟩ hpn ⟨⟨dx, upd_same⟩, ?_⟩
      · simp only [List.mem_cons, List.not_mem_nil, or_false, not_or] at hb
        rw [upd_ne hb.1, upd_ne (ne_of_none e hpn), upd_ne hb.2]
        exact e
      · by_cases z1 : b = sp
        · rw [z1, upd_same] at e; cases e
        · rw [upd_ne z1] at e
          by_cases z2 : b = p
          · rw [z2, upd_same] at e; cases e
          · rw [upd_ne z2] at e
            by_cases z3 : b = l
            · rw [z3, upd_same] at e; cases e
            · rw [upd_ne z3] at e; exact e
      · rw [upd_ne hps, upd_same, hns, List.map_map]
        rfl
end
end Kn
set_option Elab.async false
set_option linter.all false
set_option maxRecDepth 100000
set_option maxHeartbeats 4000000
namespace Kn
open PySem PySem.Spec PyProof.Rows L2
local macro_rules | `(tactic| walk_at "hp") => `(tactic| first | assumption | exact upd_same | (rw [upd_ne (by assumption)]; walk_at "hp"))
local macro_rules | `(tactic| walk_at "r1") => `(tactic| first
  | with_reducible refine r_seq ?_
  | with_reducible refine r_asg ?_
  | (with_reducible refine r_name ?_; try dsimp only [List.set_cons_succ, List.set_cons_zero])
  | ((with_reducible refine' r_var (v := ?v1) ?h1 ?q1); (case h1 => exact rfl))
  | with_reducible refine r_c ?_
  | with_reducible refine r_op ?_
  | with_reducible refine r_un ?_
  | with_reducible refine r_I0 ?_
  | with_reducible refine r_U ?_
  | with_reducible refine r_ret ?_
  | with_reducible refine r_retN ?_
  | with_reducible refine r_drop ?_
  | with_reducible refine r_next ?_
  | with_reducible refine r_brk ?_
  | with_reducible refine r_cons ?_
  | with_reducible refine r_nil ?_
  | with_reducible refine r_cb ?_
  | with_reducible refine r_ckw ?_
  | with_reducible refine r_test ?_
  | with_reducible refine r_B ?_
  | with_reducible refine r_blN ?_
  | with_reducible refine r_bl ?_
  | with_reducible refine r_ifS ?_
  | with_reducible refine r_if ?_
  | with_reducible refine r_not ?_
  | with_reducible refine r_and ?_
  | with_reducible refine r_or ?_
  | with_reducible refine r_andV ?_
  | with_reducible refine r_andB ?_
  | with_reducible refine r_notV ?_
  | with_reducible refine r_notB ?_
  | with_reducible refine r_call ?_
  | with_reducible refine r_make ?_
  | with_reducible refine r_meth ?_
  | with_reducible refine r_fld ?_
  | with_reducible refine r_tup ?_
  | with_reducible refine r_lst ?_
  | with_reducible refine r_sub ?_
  | with_reducible refine r_sl ?_
  | with_reducible refine r_nop ?_
  | with_reducible refine r_part ?_
  | with_reducible refine r_pti ?_
  | with_reducible refine r_bm ?_
  | with_reducible refine r_m1 ?_
  | with_reducible refine r_m1s ?_
  | with_reducible refine r_dget ?_
  | with_reducible refine r_eq ?_
  | with_reducible refine r_ne ?_
  | with_reducible refine r_eqS ?_
  | with_reducible refine r_neS ?_
  | with_reducible refine r_for ?_
  | with_reducible refine r_lc ?_
  | with_reducible refine r_yes ?_
  | with_reducible refine r_iStr ?_
  | with_reducible refine r_iList ?_
  | with_reducible refine r_iTup ?_
  | with_reducible refine r_iSq ?_
  | with_reducible refine r_iRng ?_
  | with_reducible refine r_iEnumQ ?_
  | with_reducible refine r_iEnumS ?_
  | with_reducible refine r_iEnum ?_
  | with_reducible refine r_iZip ?_
  | with_reducible refine r_tr ?_
  | with_reducible refine r_iSqK ?_
  | with_reducible refine r_fldS ?_
  | with_reducible refine r_dput ?_
  | with_reducible refine r_din ?_
  | with_reducible refine r_gcons ?_
  | with_reducible refine r_gnil ?_
  | with_reducible refine r_gtup upd_same rfl ?_
  | with_reducible refine r_chain ?_
  | with_reducible refine iteT ?_
  | with_reducible refine iteF ?_)
local macro_rules | `(tactic| walk_at "wp") => `(tactic| dsimp only [wipe, List.map_cons, List.map_nil, List.set_cons_succ, List.set_cons_zero])
local macro_rules | `(tactic| walk_at "rd") => `(tactic| repeat (walk_at "r1"))
local macro_rules | `(tactic| walk_at "rd0") => `(tactic| (simp only [L2.start, List.map_cons, List.map_nil, List.length_cons, List.length_nil, Nat.reduceAdd, Nat.reduceSub, List.replicate_succ, List.replicate_zero, List.nil_append, List.cons_append]; repeat (walk_at "r1")))
local macro_rules | `(tactic| walk_at "wp") => `(tactic| dsimp only [wipe, List.map_cons, List.map_nil, List.set_cons_succ, List.set_cons_zero])
/-! ### Span(..), basis -/
def spSpan (K : PySem.W.Frag) : Sp := fun vs H Q _ => ∃ (s a dx : Addr) (b : Bool) (ms : List Nat), vs = [.ref s, .ref a] ∧ H s = some (.ins (CS K) dx []) ∧ SqQ K b H a (ms.map iv) ∧ (∀ m ∈ ms, m < 16) ∧
  ∀ l rows H', (∀ b o, b ≠ s → H b = some o → H' b = some o) → (∀ b, H' b = none → H b = none) → H l = none → SpanAt K H' s l rows → Rows rows ms → Q .non H'
theorem SpanAt.ne {K : PySem.W.Frag} {H : Hp} {s l : Addr} {rows : List Nat} (h : SpanAt K H s l rows) : s ≠ l := by
  obtain ⟨⟨dx, h1⟩, h2⟩ := h
  exact ne_of h1 h2 (by intro q; cases q)
theorem SpanAt.same {K : PySem.W.Frag} {H H' : Hp} {s l : Addr} {rows : List Nat} (h : SpanAt K H s l rows) (e : Same H H') : SpanAt K H' s l rows := by
  obtain ⟨⟨dx, h1⟩, h2⟩ := h
  exact ⟨⟨dx, e _ _ h1⟩, e _ _ h2⟩
theorem sqQ_ne {K : PySem.W.Frag} {H H' : Hp} {s a : Addr} {b : Bool} {xs : List V} {C dx : Addr} {fs : List (Str × V)} (hs : H s = some (.ins C dx fs)) (h : SqQ K b H a xs) (k : ∀ b o, b ≠ s → H b = some o → H' b = some o) : SqQ K b H' a xs := by
  cases b with
  | false =>
    rcases h with (h | ⟨o, h⟩) | h
    · exact .inl (.inl (k _ _ (ne_of h hs (by intro q; cases q)) h))
    · exact .inl (.inr ⟨o, k _ _ (ne_of h hs (by intro q; cases q)) h⟩)
    · exact .inr h
  | true =>
    rcases h with (h | ⟨o, h⟩) | h
    · exact .inl (.inl (k _ _ (ne_of h hs (by intro q; cases q)) h))
    · exact .inl (.inr ⟨o, k _ _ (ne_of h hs (by intro q; cases q)) h⟩)
    · exact .inr h
section
variable {P : Program} {w : World} {K : PySem.W.Frag} {mg : Str → Option Value} {base : Heap}
theorem ok_span (W : TW K mg) {fd : FuncData} (F : FunD K d_Span_init.name d_Span_init.qual d_Span_init.params d_Span_init.body d_Span_init.scope [.ref (He.dflAt ("Span", some "__init__") 0 K)] [] (He.fAd K d_Span_init.at_) fd) :
    FnOk P w K mg base CX0 3 (He.fAd K d_Span_init.at_) fd P_Span_init (spSpan K) := by
  have c_Span_add := c_add (P := P) (w := w) (base := base) W
  refine okN F sc_Span_init (fun vs H Q E h => ?_) (fun cdv A outer s H vs Q E hr h => ?_)
  · obtain ⟨s, a, dx, b, ms, rfl, _⟩ := h
    rfl
  · have hu := hu_of hr
    obtain ⟨sp, a, dx, b, ms, rfl, h1, h2, hm, k⟩ := h
    refine ⟨_, (pss_cons (ps_fldK K (pv 0) (pe_lst pa_nil))
  (pss_one (ps_for PassesOwn.never rfl (pi_seqK K (pv 1)) (pg_name (i := 2) sc_Span_init.nd rfl (Or.inl rfl))
   (pss_one (ps_expr (pe_mcal (pv 0) W.cls_Span c_Span_add (hr.mono (by decide)) (pa_cons (pv 2) pa_nil))))))), ?_⟩
    walk_at "rd0"
    refine ⟨Nat.zero_le _, fun l hl => ?_⟩
    have hls : sp ≠ l := ne_of_none h1 hl
    walk_at "rd"
    refine ⟨sp, CS K, dx, [], rfl, (by rw [upd_ne hls]; exact h1), W.cls_Span, W.n_Span_rows, (by show 0 < 1000; decide), ?_⟩
    walk_at "rd"
    have hS : SpanAt K (upd (upd H l (.lst [])) sp (.ins (CS K) dx (putF "rows" (.ref l) []))) sp l [] := ⟨⟨dx, upd_same⟩, by rw [upd_ne hls.symm, upd_same]; rfl⟩
    have kp : ∀ b o, b ≠ sp → H b = some o → (upd (upd H l (.lst [])) sp (.ins (CS K) dx (putF "rows" (.ref l) []))) b = some o := fun b o hb e => by
      rw [upd_ne hb, upd_ne (ne_of_none e hl)]; exact e
    have dm : ∀ b, (upd (upd H l (.lst [])) sp (.ins (CS K) dx (putF "rows" (.ref l) []))) b = none → H b = none := fun b e => by
      by_cases z : b = sp
      · rw [z, upd_same] at e; cases e
      · rw [upd_ne z] at e
        by_cases z2 : b = l
        · rw [z2, upd_same] at e; cases e
        · rw [upd_ne z2] at e; exact e
    generalize upd (upd H l (.lst [])) sp (.ins (CS K) dx (putF "rows" (.ref l) [])) = H1 at hS kp dm ⊢
    refine ⟨a, b, ms.map iv, rfl, sqQ_ne h1 h2 kp, fun J wk => for_w wk (fun i σ H' => ∃ v l rows, σ = [some (.ref sp), some (.ref a), v] ∧ SpanAt K H' sp l rows ∧ Rows rows (ms.take i) ∧ H l = none ∧ (∀ b o, b ≠ sp → H b = some o → H' b = some o) ∧ ∀ b, H' b = none → H b = none)
      (by exact ⟨none, l, [], rfl, hS, rows_nil, hl, kp, dm⟩) (fun i σ H' _ q => by obtain ⟨_, _, _, _, _, _, _, q, _⟩ := q; exact sqQ_ne h1 h2 q) ?_ ?_⟩
    · rintro i y σ H2 H3 hi ⟨v, l2, rows, rfl, hS2, hR, hl2, kp2, dm2⟩ ⟨rfl, hy⟩
      rw [List.length_map] at hi
      rw [List.getElem?_map, List.getElem?_eq_getElem hi] at hy
      cases hy
      have hx := hm _ (List.getElem_mem hi)
      have hg : ms.getD i 0 = ms[i] := by rw [List.getD_eq_getElem?_getD, List.getElem?_eq_getElem hi]; rfl
      have hmt : ∀ m ∈ ms.take i, m < 16 := fun m h => hm m (List.mem_of_mem_take h)
      obtain ⟨dx2, hS2a⟩ := hS2.ins
      walk_at "rd"
      refine ⟨_, _, _, rfl, hS2a, rfl, ?_⟩
      walk_at "rd"
      refine ⟨sp, l2, rows, ms[i], rfl, hS2, hR.ech, hx, fun h0 => ?_, fun h0 l3 H4 kx hn hS3 => ?_⟩
      · walk_at "rd"
        refine ⟨_, l2, rows, rfl, hS2, ?_, hl2, kp2, dm2⟩
        rw [take_snoc hi, hg]
        exact hR.old' hmt hx h0
      · walk_at "rd"
        refine ⟨_, l3, _, rfl, hS3, ?_, dm2 _ hn, fun b o hb e => kx.keep b o ?_ (kp2 b o hb e), fun b e => dm2 b (kx.dom b e)⟩
        · rw [take_snoc hi, hg]
          exact hR.add' hmt hx h0
        · simp only [List.mem_cons, List.not_mem_nil, or_false, not_or]
          exact ⟨hb, ne_of_none e hl2⟩
    · rintro σ H2 ⟨v, l2, rows, rfl, hS2, hR, hl2, kp2, dm2⟩
      rw [List.length_map, List.take_length] at hR
      exact k l2 rows H2 kp2 dm2 hl2 hS2 hR
theorem c_span (W : TW K mg) : NCal P w K mg base 3 "Span" (CS K) P_Span_init [] (spSpan K) := by
  obtain ⟨fd, F⟩ := W.f_Span_init
  obtain ⟨ds, hd, hb⟩ := F.binds1 (ps := P_Span_init) 2 1 (by simp) rfl fun T _ _ _ _ _ _ us its hu hi => match us, its, hu, hi with | [_, _], [_], _, _ => ⟨_, rfl, rfl⟩
  exact ⟨_, fd, ds, W.g_Span, W.mk_Span, hb, hd, ok_span W F⟩
theorem c_span0 (W : TW K mg) : NCal P w K mg base 3 "Span" (CS K) P_Span_init [.ref (He.dflAt ("Span", some "__init__") 0 K)] (spSpan K) := by
  obtain ⟨fd, F⟩ := W.f_Span_init
  obtain ⟨ds, hd, hb⟩ := F.binds1 (ps := P_Span_init) 1 0 (by simp) rfl fun T _ _ _ _ _ _ us its hu hi => match us, its, hu, hi with | [_], [_], _, _ => ⟨_, rfl, rfl⟩
  exact ⟨_, fd, ds, W.g_Span, W.mk_Span, hb, hd, ok_span W F⟩
/-- a new Span leaves what was tracked -/
theorem span_same {H H2 : Hp} {x dx C : Addr} {fs : List (Str × V)} (nx : H x = none) (nd : H dx = none) (k : ∀ b o, b ≠ x → (upd (upd H dx (.own x)) x (.ins C dx fs)) b = some o → H2 b = some o) : Same H H2 := fun b o e =>
  k b o (ne_of_none e nx) (by rw [upd_ne (ne_of_none e nx), upd_ne (ne_of_none e nd)]; exact e)
theorem span_free {H : Hp} {x dx l C : Addr} {fs : List (Str × V)} (h : (upd (upd H dx (.own x)) x (.ins C dx fs)) l = none) : H l = none ∧ l ≠ x := by
  have z : l ≠ x := fun z => by rw [z, upd_same] at h; cases h
  rw [upd_ne z] at h
  have z2 : l ≠ dx := fun z => by rw [z, upd_same] at h; cases h
  rw [upd_ne z2] at h
  exact ⟨h, z⟩
def spBasis (K : PySem.W.Frag) : Sp := fun vs H Q _ => ∃ (a : Addr) (b : Bool) (ms : List Nat), vs = [.ref a] ∧ H a = some (sq b (ms.map tv)) ∧ (∀ m ∈ ms, m < 16) ∧ ms.length < 1000 ∧
  ∀ T H', Same H H' → H T = none → H' T = some (.tup ((bI ms ms.length).map iv)) → Q (.ref T) H'
theorem c_basis (W : TW K mg) : Cal P w K mg base 5 "basis" P_basis (spBasis K) := by
  have c_Span0 := c_span0 (P := P) (w := w) (base := base) W
  have c_Span_add := c_add (P := P) (w := w) (base := base) W
  have c_mask_of := c_mask (P := P) (w := w) (base := base) W
  obtain ⟨fd, F⟩ := W.f_basis
  refine ⟨_, fd, W.g_basis, F.kp, F.bindsN (fun _ _ _ _ _ _ us hl => match us, hl with | [_], _ => rfl), okN F sc_basis (fun vs H Q E h => ?_) (fun cdv A outer s H vs Q E hr h => ?_)⟩
  · obtain ⟨a, b, ms, rfl, _⟩ := h
    rfl
  · have hu := hu_of hr
    obtain ⟨a, b, ms, rfl, h1, hm, hl, k⟩ := h
    refine ⟨_, (pss_cons (ps_set (i := 1) sc_basis.nd rfl (Or.inr rfl) (pe_mk0 c_Span0 (hr.mono (by decide))))
  (pss_one (ps_ret (pe_callTy (tupK K) rfl W.z_tuple (by decide +kernel) (pa_cons (pe_lc (own := [("number", 2), ("message", 3)]) (g := gTup K 2 (gCons (gName 2) (gCons (gName 3) gNil))) rfl sc_basis.nd (pi_enumQ rfl W.z_enumerate (pa_cons (pv 0) pa_nil)) (blkOk_by (own := [("number", 2), ("message", 3)]) (by first | decide +kernel | kernel_rfl)) (fun _ _ _ _ _ => (pg_tupK K rfl (pgs_cons (pg_name (i := 2) sc_basis.nd rfl (Or.inl rfl)) (pgs_cons (pg_name (i := 3) sc_basis.nd rfl (Or.inl rfl)) pgs_nil)))) (fun _ _ _ _ _ => (pts_one (pt_val (pe_mcal (pv 1) W.cls_Span c_Span_add (hr.mono (by decide)) (pa_cons (pe_cal c_mask_of (hr.mono (by decide)) (pa_cons (pv 3) pa_nil)) pa_nil))))) (fun _ _ _ _ _ => (pv 2))) pa_nil))))), ?_⟩
    walk_at "rd0"
    intro sp dx nsp ndx nex
    refine ⟨sp, _, dx, true, [], rfl, upd_same, W.emp _, (fun m h => nomatch h), fun l rows H1 kp dm hln hS hR => ⟨rfl, ?_⟩⟩
    have s1 : Same H H1 := span_same nsp ndx kp
    obtain ⟨hln, hls⟩ := span_free hln
    walk_at "rd"
    refine ⟨a, b, ms.map tv, rfl, s1 _ _ h1, fun J wk D hD => lc_it wk (fun i H' => ∃ l rows, SpanAt K H' sp l rows ∧ Rows rows (ms.take i) ∧ H l = none ∧ D ≠ l ∧ Same H H' ∧ H' D = some (.lst ((bI ms i).map iv))) ?_ (fun i H' _ q => ?_) ?_ ?_⟩
    · obtain ⟨⟨dx1, hS1⟩, hS2⟩ := hS
      have n1 : l ≠ D := ne_of_none hS2 hD
      have n2 : sp ≠ D := ne_of_none hS1 hD
      exact ⟨l, rows, ⟨⟨dx1, by rw [upd_ne n2]; exact hS1⟩, by rw [upd_ne n1]; exact hS2⟩, hR, hln, n1.symm, s1.trans (same_new hD), upd_same⟩
    · obtain ⟨_, _, _, _, _, _, s, _⟩ := q
      exact s _ _ h1
    · rintro i y Hc H' hi ⟨l2, rows2, hS2, hR2, hl2, hDl, s2, e2⟩ ⟨T, ia, x, rfl, hT, rfl, hia, hx⟩
      cases hia
      rw [List.length_map] at hi
      dsimp only at hx
      rw [List.getElem?_map, List.getElem?_eq_getElem hi] at hx
      cases hx
      have hx := hm _ (List.getElem_mem hi)
      have hg : ms.getD i 0 = ms[i] := by rw [List.getD_eq_getElem?_getD, List.getElem?_eq_getElem hi]; rfl
      have hmt : ∀ m ∈ ms.take i, m < 16 := fun m h => hm m (List.mem_of_mem_take h)
      have hS3 := hS2.same (same_new (o := .tup [.int ((i : Nat) : Int), tv ms[i]]) hT)
      have s3 := s2.trans (same_new (o := .tup [.int ((i : Nat) : Int), tv ms[i]]) hT)
      have e3 := same_new (o := .tup [.int ((i : Nat) : Int), tv ms[i]]) hT _ _ e2
      generalize hH3 : upd Hc T (.tup [.int ((i : Nat) : Int), tv ms[i]]) = H3 at hS3 s3 e3
      have eT : H3 T = some (.tup [.int ((i : Nat) : Int), tv ms[i]]) := by rw [← hH3, upd_same]
      walk_at "wp"
      refine r_gtup eT rfl ?_
      walk_at "rd"
      walk_at "wp"
      refine ⟨rfl, ?_⟩
      obtain ⟨dx3, hS3a⟩ := hS3.ins
      walk_at "rd"
      refine ⟨_, _, _, rfl, hS3a, rfl, ?_⟩
      walk_at "rd"
      refine ⟨_, rfl, hx, ?_⟩
      walk_at "rd"
      have e0 := hR2.has hx
      refine ⟨sp, l2, rows2, ms[i], rfl, hS3, hR2.ech, hx, fun h0 => ?_, fun h0 l4 H4 kx hn hS4 => ?_⟩
      · walk_at "rd"
        refine ⟨l2, rows2, hS3, ?_, hl2, hDl, s3, ?_⟩
        · rw [take_snoc hi, hg]
          exact hR2.old' hmt hx h0
        · rw [bI_succ, hg, ← e0, h0, if_pos (by rfl)]
          exact e3
      · walk_at "rd"
        have hDs : D ≠ sp := ne_of e3 hS3a (by intro q; cases q)
        have e4 : H4 D = some (.lst ((bI ms i).map iv)) := kx.keep _ _ (by simp only [List.mem_cons, List.not_mem_nil, or_false, not_or]; exact ⟨hDs, hDl⟩) e3
        have hD4 : D ≠ l4 := ne_of_none e3 hn
        have s4 : Same H H4 := fun b o e => kx.keep b o (by simp only [List.mem_cons, List.not_mem_nil, or_false, not_or]; exact ⟨ne_of_none e nsp, ne_of_none e hl2⟩) (s3 b o e)
        have hDn : H D = none := by
          cases q : H D with
          | none => rfl
          | some o =>
            have := s1 _ _ q
            rw [hD] at this; cases this
        refine ⟨_, e4, ?_, l4, insD (leftF rows2 ms[i]) rows2, ⟨?_, ?_⟩, ?_, s3.free hn, hD4, Same.mut s4 hDn, ?_⟩
        · have q : (bI ms i).length ≤ i := by
            have := List.length_filter_le (fun i => !mem (ms.take i) (ms.getD i 0)) (List.range i)
            rw [List.length_range] at this
            exact this
          rw [List.length_map]
          have e : sizeLine = 16777216 := sizeLine_eq
          omega
        · obtain ⟨dx4, z⟩ := hS4.ins
          exact ⟨dx4, by rw [upd_ne hDs.symm]; exact z⟩
        · rw [upd_ne hD4.symm]; exact hS4.lst
        · rw [take_snoc hi, hg]
          exact hR2.add' hmt hx h0
        · have : mem (ms.take i) ms[i] = false := by
            rw [← e0]
            simpa using h0
          rw [upd_same, bI_succ, hg, this, if_neg Bool.false_ne_true, List.map_append]
          rfl
    · rintro H2 ⟨l2, rows2, hS2, hR2, hl2, hDl, s2, e2⟩
      walk_at "rd"
      rw [List.length_map] at e2
      refine ⟨D, _, rfl, .inl ⟨SqL.of e2, fun T hT => ?_⟩⟩
      exact k T _ (s2.trans (same_new hT)) (s2.free hT) upd_same
end
end Kn
set_option Elab.async false
set_option linter.all false
set_option maxRecDepth 100000
set_option maxHeartbeats 4000000
namespace Kn
open PySem PySem.Spec PyProof.Rows L2
local macro_rules | `(tactic| walk_at "hp") => `(tactic| first | assumption | exact upd_same | (rw [upd_ne (by assumption)]; walk_at "hp"))
local macro_rules | `(tactic| walk_at "r1") => `(tactic| first
  | with_reducible refine r_seq ?_
  | with_reducible refine r_asg ?_
  | (with_reducible refine r_name ?_; try dsimp only [List.set_cons_succ, List.set_cons_zero])
  | ((with_reducible refine' r_var (v := ?v1) ?h1 ?q1); (case h1 => exact rfl))
  | with_reducible refine r_c ?_
  | with_reducible refine r_op ?_
  | with_reducible refine r_un ?_
  | with_reducible refine r_I0 ?_
  | with_reducible refine r_U ?_
  | with_reducible refine r_ret ?_
  | with_reducible refine r_retN ?_
  | with_reducible refine r_drop ?_
  | with_reducible refine r_next ?_
  | with_reducible refine r_brk ?_
  | with_reducible refine r_cons ?_
  | with_reducible refine r_nil ?_
  | with_reducible refine r_cb ?_
  | with_reducible refine r_ckw ?_
  | with_reducible refine r_test ?_
  | with_reducible refine r_B ?_
  | with_reducible refine r_blN ?_
  | with_reducible refine r_bl ?_
  | with_reducible refine r_ifS ?_
  | with_reducible refine r_if ?_
  | with_reducible refine r_not ?_
  | with_reducible refine r_and ?_
  | with_reducible refine r_or ?_
  | with_reducible refine r_andV ?_
  | with_reducible refine r_andB ?_
  | with_reducible refine r_notV ?_
  | with_reducible refine r_notB ?_
  | with_reducible refine r_call ?_
  | with_reducible refine r_make ?_
  | with_reducible refine r_meth ?_
  | with_reducible refine r_fld ?_
  | with_reducible refine r_tup ?_
  | with_reducible refine r_lst ?_
  | with_reducible refine r_sub ?_
  | with_reducible refine r_sl ?_
  | with_reducible refine r_nop ?_
  | with_reducible refine r_part ?_
  | with_reducible refine r_pti ?_
  | with_reducible refine r_bm ?_
  | with_reducible refine r_m1 ?_
  | with_reducible refine r_m1s ?_
  | with_reducible refine r_dget ?_
  | with_reducible refine r_eq ?_
  | with_reducible refine r_ne ?_
  | with_reducible refine r_eqS ?_
  | with_reducible refine r_neS ?_
  | with_reducible refine r_for ?_
  | with_reducible refine r_lc ?_
  | with_reducible refine r_yes ?_
  | with_reducible refine r_iStr ?_
  | with_reducible refine r_iList ?_
  | with_reducible refine r_iTup ?_
  | with_reducible refine r_iSq ?_
  | with_reducible refine r_iRng ?_
  | with_reducible refine r_iEnumQ ?_
  | with_reducible refine r_iEnumS ?_
  | with_reducible refine r_iEnum ?_
  | with_reducible refine r_iZip ?_
  | with_reducible refine r_tr ?_
  | with_reducible refine r_iSqK ?_
  | with_reducible refine r_fldS ?_
  | with_reducible refine r_dput ?_
  | with_reducible refine r_din ?_
  | with_reducible refine r_gcons ?_
  | with_reducible refine r_gnil ?_
  | with_reducible refine r_gtup upd_same rfl ?_
  | with_reducible refine r_chain ?_
  | with_reducible refine iteT ?_
  | with_reducible refine iteF ?_)
local macro_rules | `(tactic| walk_at "wp") => `(tactic| dsimp only [wipe, List.map_cons, List.map_nil, List.set_cons_succ, List.set_cons_zero])
local macro_rules | `(tactic| walk_at "rd") => `(tactic| repeat (walk_at "r1"))
local macro_rules | `(tactic| walk_at "rd0") => `(tactic| (simp only [L2.start, List.map_cons, List.map_nil, List.length_cons, List.length_nil, Nat.reduceAdd, Nat.reduceSub, List.replicate_succ, List.replicate_zero, List.nil_append, List.cons_append]; repeat (walk_at "r1")))
local macro_rules | `(tactic| walk_at "wp") => `(tactic| dsimp only [wipe, List.map_cons, List.map_nil, List.set_cons_succ, List.set_cons_zero])
/-! ### the law's spans -/
theorem IsSpan.snoc {L ms : List Nat} {m : Nat} (h : IsSpan L ms) : IsSpan (spl L m) (ms ++ [m]) :=
  ⟨fun x => by rw [mem_perm (List.perm_append_comm (l₁ := ms) (l₂ := [m]))]; exact h.step.iff x, h.step.nd⟩
def untxt (s : Str) : Nat := ((List.range 16).find? fun m => decide (txt m = s)).getD 0
theorem untxt_txt : ∀ m < 16, untxt (txt m) = m := by decide +kernel
theorem perm_txt {ys : List Str} {L : List Nat} (hL : ∀ m ∈ L, m < 16) (h : ys.Perm (L.map txt)) : ∃ L' : List Nat, L'.Perm L ∧ ys = L'.map txt := by
  refine ⟨ys.map untxt, ?_, ?_⟩
  · have h2 := h.map untxt
    rw [List.map_map] at h2
    have e : List.map (untxt ∘ txt) L = List.map id L := List.map_congr_left fun m hm => untxt_txt m (hL m hm)
    rwa [e, List.map_id] at h2
  · rw [List.map_map]
    have : ∀ y ∈ ys, (txt ∘ untxt) y = y := fun y hy => by
      obtain ⟨m, hm, e⟩ := List.mem_map.mp (h.mem_iff.mp hy)
      show txt (untxt y) = y
      rw [← e, untxt_txt m (hL m hm)]
    have e2 : List.map (txt ∘ untxt) ys = List.map id ys := List.map_congr_left this
    rw [e2, List.map_id]
theorem inV_txt {m : Nat} {L : List Nat} (hm : m < 16) (hL : ∀ x ∈ L, x < 16) : inV (tv m) (L.map tv) = decide (m ∈ L) := by
  unfold inV
  rw [List.any_map]
  by_cases h : m ∈ L
  · rw [decide_eq_true h, List.any_eq_true]
    exact ⟨m, h, by show (txt m == txt m) = true; simp⟩
  · rw [decide_eq_false h, List.any_eq_false]
    intro x hx e
    have e' : (txt x == txt m) = true := e
    exact h ((txt_inj x (hL x hx) m hm (eq_of_beq e')) ▸ hx)
theorem all_flat_txt (L : List Nat) : (L.map tv).all flatV = true := by
  rw [List.all_map, List.all_eq_true]
  intro x _
  rfl
def spSum : Sp := fun vs H Q _ => ∃ (a : Addr) (x y : Nat), vs = [.ref a] ∧ H a = some (.lst [tv x, tv y]) ∧ x < 16 ∧ y < 16 ∧ ∀ H', Same H H' → Q (tv (x ^^^ y)) H'
def spDer : Sp := fun vs H Q _ => ∃ (a : Addr) (ms : List Nat), vs = [.ref a] ∧ H a = some (.lst (ms.map tv)) ∧ (∀ m ∈ ms, m < 16) ∧
  ∀ d L H', Same H H' → H d = none → H' d = some (.lst (L.map tv)) → IsSpan L ms → Q (.ref d) H'
def spRk : Sp := fun vs H Q _ => ∃ (a : Addr) (ms : List Nat), vs = [.ref a] ∧ H a = some (.lst (ms.map tv)) ∧ (∀ m ∈ ms, m < 16) ∧ ∀ H', Same H H' → Q (.int (rk ms : Nat)) H'
theorem af_at : ∀ i < 6, (Str.ofString "abcdef").cps[i]? = some (97 + i) := by decide +kernel
theorem t_count : ∀ x < 16, ∀ y < 16, ∀ j < 6, decide ((Txt.count (Txt.join (Str.ofString "") [txt x, txt y]) ⟨#[97 + j]⟩) % 2 = 1) = (x ^^^ y).testBit j := by decide +kernel
theorem t_join6 : ∀ m < 16, Txt.join (Str.ofString "") (((List.range 6).filter fun j => m.testBit j).map lt) = txt m := by decide +kernel
theorem txt_len : ∀ m < 16, (txt m).length ≤ 4 := by decide +kernel
theorem lt_sum (l : List Nat) : ((l.map lt).map (·.length)).sum = l.length := by
  induction l with
  | nil => rfl
  | cons a r ih =>
    rw [List.map_cons, List.map_cons, List.sum_cons, ih, List.length_cons]
    show 1 + r.length = _
    omega
section
variable {P : Program} {w : World} {K : PySem.W.Frag} {mg : Str → Option Value} {base : Heap}
theorem c_sum (W : TW K mg) : Cal P w K mg base 1 "_law_sum" P__law_sum spSum := by
  obtain ⟨fd, F⟩ := W.f__law_sum
  refine ⟨_, fd, W.g__law_sum, F.kp, F.bindsN (fun _ _ _ _ _ _ us hl => match us, hl with | [_], _ => rfl), okN F sc__law_sum (fun vs H Q E h => ?_) (fun cdv A outer s H vs Q E hr h => ?_)⟩
  · obtain ⟨a, x, y, rfl, _⟩ := h
    rfl
  · have hu := hu_of hr
    obtain ⟨a, x, y, rfl, h1, hx, hy, k⟩ := h
    have hz : x ^^^ y < 16 := Nat.xor_lt_two_pow (n := 4) hx hy
    refine ⟨_, (pss_cons (ps_set (i := 1) sc__law_sum.nd rfl (Or.inr rfl) (pe_m1 PySem.F.slot_str_join PySem.F.type_str_join (joinK K) pe_str (pv 0)))
  (pss_one (ps_ret (pe_m1 PySem.F.slot_str_join PySem.F.type_str_join (joinK K) pe_str (pe_lc (own := [("_law_letter", 2)]) rfl sc__law_sum.nd (pi_str pe_str) (blkOk_by (own := [("_law_letter", 2)]) (by first | decide +kernel | kernel_rfl)) (fun _ _ _ _ _ => (pg_name (i := 2) sc__law_sum.nd rfl (Or.inl rfl))) (fun _ _ _ _ _ => (pts_one (pt_cmpR op_eq (pe_op op_mod (pe_callTy call_int1 rfl W.z_int (by decide +kernel) (pa_cons (pe_m1 PySem.F.slot_str_count PySem.F.type_str_count mt_count (pv 1) (pv 2)) pa_nil)) pe_int) pe_int (nomark _)))) (fun _ _ _ _ _ => (pv 2))))))), ?_⟩
    walk_at "rd0"
    have lx := txt_len x hx
    have ly := txt_len y hy
    refine ⟨_, a, [txt x, txt y], rfl, rfl, .inl (SqL.of h1), ?_, ?_⟩
    · have q3 : (Str.ofString "").length = 0 := rfl
      rw [q3]
      simp only [List.map_cons, List.map_nil, List.sum_cons, List.sum_nil]
      omega
    walk_at "rd"
    refine ⟨_, rfl, fun D hD => lc_pure walk_str ySame_str (by show 6 < 16777216; decide) hD (fun i => (x ^^^ y).testBit i) (fun i => .str (lt i)) (fun _ _ => trivial) ?_ fun H1 s1 e1 => ?_⟩
    · rintro i v Hc H' R E hi s ⟨rfl, c, hc, rfl⟩ hR hE
      have hi6 : i < 6 := hi
      rw [af_at i hi6] at hc
      cases hc
      walk_at "wp"
      walk_at "rd"
      refine ⟨rfl, ?_⟩
      walk_at "rd"
      refine ⟨_, _, rfl, rfl, ?_⟩
      refine .inl ⟨_, rfl, ?_⟩
      walk_at "rd"
      refine r_I (by decide) ?_
      walk_at "rd"
      rw [t_count x hx y hy i hi6]
      cases c : (x ^^^ y).testBit i with
      | true =>
        walk_at "rd"
        exact hR c _ (Same.refl _)
      | false =>
        walk_at "rd"
        exact hE c _ (Same.refl _)
    · have e1' : H1 D = some (.lst ((((List.range 6).filter fun i => (x ^^^ y).testBit i).map lt).map V.str)) := by rw [List.map_map]; exact e1
      refine ⟨_, D, _, rfl, rfl, .inl (SqL.of e1'), ?_, ?_⟩
      · have q : ((List.range 6).filter fun i => (x ^^^ y).testBit i).length ≤ 6 := by
          have := List.length_filter_le (fun i => (x ^^^ y).testBit i) (List.range 6)
          simpa using this
        have q3 : (Str.ofString "").length = 0 := rfl
        rw [q3, lt_sum]
        omega
      · rw [t_join6 _ hz]
        exact k _ s1
theorem take_snocG {ms : List Nat} {i m : Nat} (h : ms[i]? = some m) : ms.take (i + 1) = ms.take i ++ [m] := by
  rw [List.take_add_one, h]; rfl
theorem c_der (W : TW K mg) : Cal P w K mg base 2 "_law_derived" P__law_derived spDer := by
  have c__law_sum := c_sum (P := P) (w := w) (base := base) W
  obtain ⟨fd, F⟩ := W.f__law_derived
  refine ⟨_, fd, W.g__law_derived, F.kp, F.bindsN (fun _ _ _ _ _ _ us hl => match us, hl with | [_], _ => rfl), okN F sc__law_derived (fun vs H Q E h => ?_) (fun cdv A outer s H vs Q E hr h => ?_)⟩
  · obtain ⟨a, ms, rfl, _⟩ := h
    rfl
  · have hu := hu_of hr
    obtain ⟨a, ms, rfl, h1, hm, k⟩ := h
    refine ⟨_, (pss_cons (ps_set (i := 1) sc__law_derived.nd rfl (Or.inl rfl) (pe_lst (pa_cons pe_str pa_nil)))
  (pss_cons (ps_for PassesOwn.never rfl (pi_listK K (pv 0)) (pg_name (i := 2) sc__law_derived.nd rfl (Or.inr rfl))
   (pss_one (ps_if (pt_cmpR (notInQ K) (pv 2) (pv 1) rfl)
   (pss_one (ps_set (i := 1) sc__law_derived.nd rfl (Or.inl rfl) (pe_op op_cat (pv 1) (pe_lc (own := [("_law_one", 3)]) rfl sc__law_derived.nd (pi_listK K (pv 1)) (blkOk_by (own := [("_law_one", 3)]) (by first | decide +kernel | kernel_rfl)) (fun _ _ _ _ _ => (pg_name (i := 3) sc__law_derived.nd rfl (Or.inl rfl))) (fun _ _ _ _ _ => pts_nil) (fun _ _ _ _ _ => (pe_cal c__law_sum (hr.mono (by decide)) (pa_cons (pe_lst (pa_cons (pv 3) (pa_cons (pv 2) pa_nil))) pa_nil)))))))
   pss_nil)))
  (pss_one (ps_ret (pe_callB (sortedSK K) rfl W.z_sorted (by decide +kernel) (pa_cons (pv 1) pa_nil)))))), ?_⟩
    walk_at "rd0"
    refine ⟨(by show 1 ≤ sizeLine; decide), fun f hf => ?_⟩
    walk_at "rd"
    refine ⟨a, rfl, ⟨_, SqL.of (same_new hf _ _ h1)⟩, for_w walk_list (fun i σ H' => ∃ f L v u, σ = [some (.ref a), some (.ref f), v, u] ∧ Same H H' ∧ H f = none ∧ H' f = some (.lst (L.map tv)) ∧ IsSpan L (ms.take i))
      (by exact ⟨f, [0], none, none, rfl, same_new hf, hf, upd_same, isSpan_nil⟩) (fun i σ H' _ q => by obtain ⟨_, _, _, _, _, s, _⟩ := q; exact SqL.of (s _ _ h1)) ?_ ?_⟩
    · rintro i y σ H1 H2 hi ⟨f, L, v, u, rfl, s1, hf, e1, hS⟩ ⟨rfl, hy⟩
      rw [List.getElem?_map] at hy
      cases er : ms[i]? with
      | none => rw [er] at hy; cases hy
      | some m =>
        rw [er] at hy
        cases hy
        have hm16 : m < 16 := hm m (List.mem_of_getElem? er)
        have hmt : ∀ m ∈ ms.take i, m < 16 := fun m h => hm m (List.mem_of_mem_take h)
        have hL := hS.lt hmt
        have hsz := hS.size hmt
        walk_at "rd"
        refine ⟨f, _, rfl, .inl (SqL.of e1), rfl, all_flat_txt L, ?_⟩
        rw [if_pos rfl, inV_txt hm16 hL]
        walk_at "rd"
        refine iteN (fun c => ?_) (fun c => ?_)
        · walk_at "rd"
          refine ⟨f, rfl, ⟨_, SqL.of e1⟩, fun D hD => lc_all walk_list ySame_at (by rw [List.length_map]; omega) hD (fun j => tv (L.getD j 0 ^^^ m)) (fun H3 s3 => SqL.of (s3 _ _ e1)) ?_ fun H3 s3 e3 => ?_⟩
          · rintro j z Hc H' R E hj s ⟨rfl, hz⟩ hR
            rw [List.length_map] at hj
            rw [List.getElem?_map, List.getElem?_eq_getElem hj] at hz
            cases hz
            walk_at "wp"
            walk_at "rd"
            refine ⟨rfl, ?_⟩
            walk_at "rd"
            refine ⟨(by show 2 ≤ sizeLine; decide), fun g hg => ?_⟩
            walk_at "rd"
            refine ⟨g, L[j], m, rfl, upd_same, hL _ (List.getElem_mem hj), hm16, fun H4 s4 => ?_⟩
            have eg : L.getD j 0 = L[j] := by rw [List.getD_eq_getElem?_getD, List.getElem?_eq_getElem hj]; rfl
            have hR' := hR H4 ((same_new hg).trans s4)
            rw [eg] at hR'
            exact hR'
          · have e4 : (List.range (L.map tv).length).map (fun j => tv (L.getD j 0 ^^^ m)) = (L.map (· ^^^ m)).map tv := by
              rw [List.length_map, List.map_map]
              refine List.ext_getElem (by simp) fun j h1 h2 => ?_
              simp at h1 h2
              simp [h1]
            rw [e4] at e3
            refine ⟨f, D, _, _, rfl, rfl, s3 _ _ e1, e3, ?_, fun p hp => ?_⟩
            · rw [List.length_map, List.length_map, List.length_map]
              have e : sizeLine = 16777216 := sizeLine_eq
              omega
            · walk_at "rd"
              have s5 : Same H (upd H3 p (.lst (L.map tv ++ (L.map (· ^^^ m)).map tv))) := (s1.trans s3).trans (same_new hp)
              refine ⟨p, L ++ L.map (· ^^^ m), _, _, rfl, s5, (s1.trans s3).free hp, by rw [upd_same, List.map_append], ?_⟩
              have q := hS.snoc (m := m)
              unfold spl at q
              rw [if_neg c] at q
              rw [take_snocG er]
              exact q
        · walk_at "rd"
          refine ⟨f, L, _, _, rfl, s1, hf, e1, ?_⟩
          have q := hS.snoc (m := m)
          unfold spl at q
          rw [if_pos c] at q
          rw [take_snocG er]
          exact q
    · rintro σ H1 ⟨f, L, v, u, rfl, s1, hf, e1, hS⟩
      rw [List.length_map, List.take_length] at hS
      have hsz := hS.size hm
      have e1' : H1 f = some (.lst ((L.map txt).map V.str)) := by rw [List.map_map]; exact e1
      walk_at "rd"
      refine ⟨f, L.map txt, rfl, SqL.of e1', by rw [List.length_map]; omega, fun ys p hp _ hn => ?_⟩
      obtain ⟨L', hp', rfl⟩ := perm_txt (hS.lt hm) hp
      exact k p L' _ (s1.trans (same_new hn)) (s1.free hn) (by rw [upd_same, List.map_map]; rfl) (hS.perm hp')
theorem pow_half {r i : Nat} (h : 1 < 2 ^ (r - i)) : 2 ^ (r - i) / 2 = 2 ^ (r - (i + 1)) ∧ i < r := by
  have hlt : i < r := by
    by_cases c : i < r
    · exact c
    · rw [show r - i = 0 by omega] at h
      exact absurd h (by decide)
  refine ⟨?_, hlt⟩
  rw [show r - i = (r - (i + 1)) + 1 by omega, Nat.pow_succ]
  omega
theorem c_rk (W : TW K mg) : Cal P w K mg base 3 "_law_rank" P__law_rank spRk := by
  have c__law_derived := c_der (P := P) (w := w) (base := base) W
  obtain ⟨fd, F⟩ := W.f__law_rank
  refine ⟨_, fd, W.g__law_rank, F.kp, F.bindsN (fun _ _ _ _ _ _ us hl => match us, hl with | [_], _ => rfl), okN F sc__law_rank (fun vs H Q E h => ?_) (fun cdv A outer s H vs Q E hr h => ?_)⟩
  · obtain ⟨a, ms, rfl, _⟩ := h
    rfl
  · have hu := hu_of hr
    obtain ⟨a, ms, rfl, h1, hm, k⟩ := h
    refine ⟨_, (pss_cons (ps_set (i := 1) sc__law_rank.nd rfl (Or.inl rfl) (pe_callB (lenK K) rfl W.z_len PySem.boot_len (pa_cons (pe_cal c__law_derived (hr.mono (by decide)) (pa_cons (pv 0) pa_nil)) pa_nil)))
  (pss_cons (ps_set (i := 2) sc__law_rank.nd rfl (Or.inl rfl) pe_int)
  (pss_cons (ps_for PassesOwn.never rfl (pi_range1 rfl W.z_range (pa_cons pe_int pa_nil)) (pg_name (i := 3) sc__law_rank.nd rfl (Or.inl rfl))
   (pss_one (ps_if (pt_cmpR op_gt (pv 1) pe_int (nomark _))
   (pss_cons (ps_set (i := 1) sc__law_rank.nd rfl (Or.inl rfl) (pe_op op_fdiv (pv 1) pe_int))
  (pss_one (ps_set (i := 2) sc__law_rank.nd rfl (Or.inl rfl) (pe_op op_add (pv 2) pe_int))))
   pss_nil)))
  (pss_one (ps_ret (pv 2)))))), ?_⟩
    walk_at "rd0"
    refine ⟨a, ms, rfl, h1, hm, fun d L H1 s1 hd e1 hS => ?_⟩
    walk_at "rd"
    refine ⟨_, L.length, rfl, .inl ⟨_, SqL.of e1, by rw [List.length_map]⟩, ?_⟩
    rw [hS.len hm]
    have hr4 := rk_four hm
    generalize hre : rk ms = r at hr4 k
    walk_at "rd"
    refine ⟨6, rfl, by decide, by decide, ?_⟩
    walk_at "rd"
    refine for_w (walk_range (lo := 0) (n := (6 : Int).toNat)) (fun i σ H' => H' = H1 ∧ ∃ v, σ = [some (.ref a), some (.int ((2 ^ (r - i) : Nat) : Int)), some (.int ((min i r : Nat) : Int)), v])
      (by exact ⟨rfl, none, by rw [Nat.sub_zero, Nat.zero_min]; rfl⟩) (fun _ _ _ _ _ => trivial) ?_ ?_
    · rintro i y σ H2 H3 hi ⟨rfl, v, rfl⟩ ⟨rfl, rfl⟩
      walk_at "rd"
      refine iteD (fun c => ?_) (fun c => ?_)
      · have c' : 1 < 2 ^ (r - i) := by omega
        obtain ⟨p1, p2⟩ := pow_half c'
        walk_at "rd"
        refine r_I ⟨by decide, by decide⟩ ?_
        walk_at "rd"
        have e1 : (((2 ^ (r - i) : Nat) : Int) / 2) = ((2 ^ (r - (i + 1)) : Nat) : Int) := by rw [← p1]; rfl
        have e2 : ((min i r : Nat) : Int) + 1 = ((min (i + 1) r : Nat) : Int) := by omega
        rw [e1, e2]
        exact ⟨rfl, _, rfl⟩
      · walk_at "rd"
        have hge : r ≤ i := by
          by_cases q : r ≤ i
          · exact q
          · exfalso
            apply c
            have : 2 ^ 1 ≤ 2 ^ (r - i) := Nat.pow_le_pow_right (by decide) (by omega)
            omega
        rw [show r - (i + 1) = r - i by omega, show min (i + 1) r = min i r by omega]
        exact ⟨rfl, _, rfl⟩
    · rintro σ H2 ⟨rfl, v, rfl⟩
      walk_at "rd"
      have e : min (6 : Int).toNat r = r := by
        have : (6 : Int).toNat = 6 := rfl
        omega
      rw [e]
      exact k _ s1
end
end Kn
set_option Elab.async false
set_option linter.all false
set_option maxRecDepth 100000
set_option maxHeartbeats 4000000
namespace Kn
open PySem PySem.Spec PyProof.Rows L2
local macro_rules | `(tactic| walk_at "hp") => `(tactic| first | assumption | exact upd_same | (rw [upd_ne (by assumption)]; walk_at "hp"))
local macro_rules | `(tactic| walk_at "r1") => `(tactic| first
  | with_reducible refine r_seq ?_
  | with_reducible refine r_asg ?_
  | (with_reducible refine r_name ?_; try dsimp only [List.set_cons_succ, List.set_cons_zero])
  | ((with_reducible refine' r_var (v := ?v1) ?h1 ?q1); (case h1 => exact rfl))
  | with_reducible refine r_c ?_
  | with_reducible refine r_op ?_
  | with_reducible refine r_un ?_
  | with_reducible refine r_I0 ?_
  | with_reducible refine r_U ?_
  | with_reducible refine r_ret ?_
  | with_reducible refine r_retN ?_
  | with_reducible refine r_drop ?_
  | with_reducible refine r_next ?_
  | with_reducible refine r_brk ?_
  | with_reducible refine r_cons ?_
  | with_reducible refine r_nil ?_
  | with_reducible refine r_cb ?_
  | with_reducible refine r_ckw ?_
  | with_reducible refine r_test ?_
  | with_reducible refine r_B ?_
  | with_reducible refine r_blN ?_
  | with_reducible refine r_bl ?_
  | with_reducible refine r_ifS ?_
  | with_reducible refine r_if ?_
  | with_reducible refine r_not ?_
  | with_reducible refine r_and ?_
  | with_reducible refine r_or ?_
  | with_reducible refine r_andV ?_
  | with_reducible refine r_andB ?_
  | with_reducible refine r_notV ?_
  | with_reducible refine r_notB ?_
  | with_reducible refine r_call ?_
  | with_reducible refine r_make ?_
  | with_reducible refine r_meth ?_
  | with_reducible refine r_fld ?_
  | with_reducible refine r_tup ?_
  | with_reducible refine r_lst ?_
  | with_reducible refine r_sub ?_
  | with_reducible refine r_sl ?_
  | with_reducible refine r_nop ?_
  | with_reducible refine r_part ?_
  | with_reducible refine r_pti ?_
  | with_reducible refine r_bm ?_
  | with_reducible refine r_m1 ?_
  | with_reducible refine r_m1s ?_
  | with_reducible refine r_dget ?_
  | with_reducible refine r_eq ?_
  | with_reducible refine r_ne ?_
  | with_reducible refine r_eqS ?_
  | with_reducible refine r_neS ?_
  | with_reducible refine r_for ?_
  | with_reducible refine r_lc ?_
  | with_reducible refine r_yes ?_
  | with_reducible refine r_iStr ?_
  | with_reducible refine r_iList ?_
  | with_reducible refine r_iTup ?_
  | with_reducible refine r_iSq ?_
  | with_reducible refine r_iRng ?_
  | with_reducible refine r_iEnumQ ?_
  | with_reducible refine r_iEnumS ?_
  | with_reducible refine r_iEnum ?_
  | with_reducible refine r_iZip ?_
  | with_reducible refine r_tr ?_
  | with_reducible refine r_iSqK ?_
  | with_reducible refine r_fldS ?_
  | with_reducible refine r_dput ?_
  | with_reducible refine r_din ?_
  | with_reducible refine r_gcons ?_
  | with_reducible refine r_gnil ?_
  | with_reducible refine r_gtup upd_same rfl ?_
  | with_reducible refine r_chain ?_
  | with_reducible refine iteT ?_
  | with_reducible refine iteF ?_)
local macro_rules | `(tactic| walk_at "wp") => `(tactic| dsimp only [wipe, List.map_cons, List.map_nil, List.set_cons_succ, List.set_cons_zero])
local macro_rules | `(tactic| walk_at "rd") => `(tactic| repeat (walk_at "r1"))
local macro_rules | `(tactic| walk_at "rd0") => `(tactic| (simp only [L2.start, List.map_cons, List.map_nil, List.length_cons, List.length_nil, Nat.reduceAdd, Nat.reduceSub, List.replicate_succ, List.replicate_zero, List.nil_append, List.cons_append]; repeat (walk_at "r1")))
local macro_rules | `(tactic| walk_at "wp") => `(tactic| dsimp only [wipe, List.map_cons, List.map_nil, List.set_cons_succ, List.set_cons_zero])
/-! ### comprehensions that draw -/
/-- all but D and the pool is as it was -/
def KX (D : Addr) (H H' : Hp) : Prop := ∀ b o, b ≠ D → isPool o = false → H b = some o → H' b = some o
theorem Kept.kx {D : Addr} {H H' : Hp} (h : Kept H H') : KX D H H' := fun b o _ n e => h.keep b o n e
theorem Kept.get {H H' : Hp} {b : Addr} {o : HO} (h : Kept H H') (e : H b = some o) (n : isPool o = false := by rfl) : H' b = some o := h.keep b o n e
theorem Kept.new {H H' : Hp} {a : Addr} {o : HO} (e : Kept H H') (h : H' a = none) : Kept H (upd H' a o) := e.mut (e.dom a h)
theorem Kept.same {H H' H2 : Hp} (e : Kept H H') (s : Same H' H2) : Kept H H2 := e.trans (Same.kept s)
theorem Pool.mut' {p q a : Addr} {o : HO} {cs : List Int} {H0 H : Hp} (P0 : Pool p q cs H0) (P : Pool p q cs H) (h : H0 a = none) : Pool p q cs (upd H a o) := by
  obtain ⟨⟨x, y, z, h1, r⟩, h2, h3⟩ := P
  obtain ⟨⟨_, _, _, g1, _⟩, g2, _⟩ := P0
  exact ⟨⟨x, y, z, by rw [upd_ne (ne_of_none g1 h)]; exact h1, r⟩, by rw [upd_ne (ne_of_none g2 h)]; exact h2, h3⟩
theorem lc_draw {J : It} {n : Nat} {G : Hp → Prop} {Y : Nat → Hp → V → Hp → Prop} (w : Walk J n G Y) (hY : ∀ i H x H', Y i H x H' → Same H H') {g : TG} {tt : TT} {te : TE} {vs : List Nat} {σ : L2.St} {H1 : Hp} {D : Addr} {Qd : Hp → Prop} {p q : Addr} {cs : List Int} (hn : n < 16777216) (hD : H1 D = none) (hP : Pool p q cs H1)
    (Acc : Nat → List V → Hp → Prop) (a0 : ∀ H, Acc 0 [] H) (hst : ∀ i acc H H', Acc i acc H → KX D H H' → Acc i acc H') (hnp : ∀ i acc H, Acc i acc H → isPool (.lst acc) = false) (hG : ∀ H, Kept H1 H → G H)
    (hs : ∀ i x Hc H' (R : VK) (E : Hp → Prop), i < n → Kept H1 Hc → Pool p q cs Hc → Y i Hc x H' →
      (∀ y H4, Kept H' H4 → Pool p q cs H4 → (∀ acc, Hc D = some (.lst acc) → Acc i acc Hc → Acc (i + 1) (acc ++ [y]) H4) → R y H4) →
      (∀ H4, Kept H' H4 → Pool p q cs H4 → (∀ acc, Hc D = some (.lst acc) → Acc i acc Hc → Acc (i + 1) acc H4) → E H4) →
      g x (wipe σ vs) H' fun σ2 H2 => wipe σ2 vs = wipe σ vs ∧ tt σ2 H2 fun b H3 => if b = true then te σ2 H3 R else E H3)
    (hd : ∀ H' acc, Kept H1 H' → Pool p q cs H' → acc.length ≤ n → Acc n acc H' → H' D = some (.lst acc) → Qd H') :
    ∃ W : Nat → Nat → Hp → Prop, (∃ m, W 0 m (upd H1 D (.lst []))) ∧ ∀ i m H, W i m H →
      (J.stop i H ∧ Qd H) ∨ (J.go i H ∧ ∃ Nx : Hp → Prop, (∀ H', Nx H' → ∃ m', m' < m ∧ W (i + 1) m' H') ∧ ∀ x H', J.yld i H x H' → g x (wipe σ vs) H' fun σ2 H2 => wipe σ2 vs = wipe σ vs ∧ tt σ2 H2 fun b H3 =>
        if b = true then te σ2 H3 fun y H4 => ∃ acc, H4 D = some (.lst acc) ∧ acc.length < sizeLine ∧ Nx (upd H4 D (.lst (acc ++ [y]))) else Nx H3) := by
  refine lc_it w (fun i H => Kept H1 H ∧ Pool p q cs H ∧ ∃ acc, H D = some (.lst acc) ∧ acc.length ≤ i ∧ Acc i acc H) ⟨Same.kept (same_new hD), hP.new hD, [], upd_same, Nat.zero_le _, a0 _⟩ (fun i H _ q => hG H q.1) ?_ ?_
  · rintro i x Hc H' hi ⟨s, hp, acc, e, hl, ha⟩ y
    have hY' := hY _ _ _ _ y
    refine hs i x Hc H' _ _ hi s hp y (fun v H4 s4 p4 k => ?_) fun H4 s4 p4 k => ?_
    · have e4 : H4 D = some (.lst acc) := ((Same.kept hY').trans s4).get e (hnp _ _ _ ha)
      refine ⟨acc, e4, ?_, (s.trans ((Same.kept hY').trans s4)).mut hD, hP.mut' p4 hD, acc ++ [v], upd_same, ?_, ?_⟩
      · have e : sizeLine = 16777216 := sizeLine_eq
        omega
      · rw [List.length_append]
        show acc.length + 1 ≤ _
        omega
      · exact hst _ _ _ _ (k acc e ha) fun b o hb _ h => by rw [upd_ne hb]; exact h
    · exact ⟨s.trans ((Same.kept hY').trans s4), p4, acc, ((Same.kept hY').trans s4).get e (hnp _ _ _ ha), by omega, k acc e ha⟩
  · rintro H ⟨s, hp, acc, e, hl, ha⟩
    exact hd H acc s hp hl ha e
/-! ### what is drawn -/
/-- any pool -/
def spPick : Sp := fun vs H Q _ => ∃ (p q a : Addr) (cs : List Int) (xs : List V), vs = [.ref p, .ref a] ∧ Pool p q cs H ∧ H a = some (.lst xs) ∧ isPool (.lst xs) = false ∧ 0 < xs.length ∧ xs.length < 1000 ∧
  ∀ (i : Nat) x H', xs[i]? = some x → Kept H H' → Pool p q cs H' → Q x H'
def spParity : Sp := fun vs H Q _ => ∃ (p q : Addr) (cs : List Int) (v : Nat), vs = [.ref p, .int (v : Nat)] ∧ Pool p q cs H ∧ v < 5 ∧
  ∀ (m : Nat) H', m < 2 ^ v → Kept H H' → Pool p q cs H' → Q (tv m) H'
def spMessage : Sp := fun vs H Q _ => ∃ (p q : Addr) (cs : List Int) (v : Nat), vs = [.ref p, .int (v : Nat)] ∧ Pool p q cs H ∧ 0 < v ∧ v < 5 ∧
  ∀ (m : Nat) H', 1 ≤ m → m < 2 ^ v → Kept H H' → Pool p q cs H' → Q (tv m) H'
def spSome : Sp := fun vs H Q _ => ∃ (p q : Addr) (cs : List Int) (v k : Nat), vs = [.ref p, .int (v : Nat), .int (k : Nat)] ∧ Pool p q cs H ∧ v < 5 ∧ k < 5 ∧
  ∀ (a : Addr) (ms : List Nat) H', (∀ m ∈ ms, 1 ≤ m ∧ m < 2 ^ v) → ms.length ≤ k → H a = none → H' a = some (.lst (ms.map tv)) → Kept H H' → Pool p q cs H' → Q (.ref a) H'
def spShaped : Sp := fun vs H Q _ => ∃ (p q a : Addr) (cs : List Int) (xs : List V), vs = [.ref p, .ref a] ∧ Pool p q cs H ∧ H a = some (.lst xs) ∧ isPool (.lst xs) = false ∧
  ∀ (b : Bool) (c : Addr) H', H c = none → H' c = some (sq b xs) → Kept H H' → Pool p q cs H' → Q (.ref c) H'
def spPool (K : PySem.W.Frag) : Sp := fun vs H Q _ => ∃ (a : Addr) (zs : List Int), vs = [.ref a] ∧ SqL K H a (zs.map V.int) ∧ zs.length < 16777216 ∧
  ∀ (p q : Addr) cs H', Same H H' → Pool p q cs H' → Q (.ref p) H'
theorem pm_cut : ∀ v < 5, (txt (2 ^ v - 1)).cps.size = v := by decide +kernel
theorem pm_at : ∀ v < 5, ∀ i < v, (txt (2 ^ v - 1)).cps[i]? = some (97 + i) := by decide +kernel
theorem pm_step0 : ∀ i < 4, ∀ m < 2 ^ i, m < 2 ^ (i + 1) := by decide +kernel
theorem pm_step1 : ∀ i < 4, ∀ m < 2 ^ i, m + 2 ^ i < 2 ^ (i + 1) ∧ cd (m + 2 ^ i) = cd m ++ [i] := by decide +kernel
theorem txt_bit : ∀ i < 4, txt (2 ^ i) = ⟨#[97 + i]⟩ := by decide +kernel
theorem lt_sumc (l : List Nat) : ((l.map lt).map (·.length)).sum = l.length := by
  induction l with
  | nil => rfl
  | cons a r ih =>
    rw [List.map_cons, List.map_cons, List.sum_cons, ih, List.length_cons]
    show 1 + r.length = _
    omega
theorem bit_lt {v i : Nat} (h : i < v) : 2 ^ i < 2 ^ v := (Nat.pow_lt_pow_iff_right (by decide)).mpr h
section
variable {P : Program} {w : World} {K : PySem.W.Frag} {mg : Str → Option Value} {base : Heap}
theorem c_pick (W : TW K mg) : Cal P w K mg base 4 "_law_pick" P__law_pick spPick := by
  have c__law_take := c_take (P := P) (w := w) (base := base) W
  obtain ⟨fd, F⟩ := W.f__law_pick
  refine ⟨_, fd, W.g__law_pick, F.kp, F.bindsN (fun _ _ _ _ _ _ us hl => match us, hl with | [_, _], _ => rfl), okN F sc__law_pick (fun vs H Q E h => ?_) (fun cdv A outer s H vs Q E hr h => ?_)⟩
  · obtain ⟨p, q, a, cs, xs, rfl, _⟩ := h
    rfl
  · have hu := hu_of hr
    obtain ⟨p, q, a, cs, xs, rfl, hp, ha, hn, h0, h1, k⟩ := h
    refine ⟨_, (pss_one (ps_ret (pe_ix (ixL K) (pv 1) (pe_cal c__law_take (hr.mono (by decide)) (pa_cons (pv 0) (pa_cons (pe_callB (lenK K) rfl W.z_len PySem.boot_len (pa_cons (pv 1) pa_nil)) pa_nil))) (fun _ _ => rfl)))), ?_⟩
    walk_at "rd0"
    refine ⟨_, xs.length, rfl, .inl ⟨xs, SqL.of ha, rfl⟩, ?_⟩
    walk_at "rd"
    refine ⟨p, q, cs, _, rfl, hp, by omega, by omega, fun v H' v0 vn kp pl => ?_⟩
    have hlt : v.toNat < xs.length := by omega
    refine r_ixL (kp.get ha hn) v.toNat (by omega) (List.getElem?_eq_getElem hlt) ?_
    exact k v.toNat _ H' (List.getElem?_eq_getElem hlt) kp pl
theorem c_parity (W : TW K mg) : Cal P w K mg base 4 "_law_parity" P__law_parity spParity := by
  have c__law_take := c_take (P := P) (w := w) (base := base) W
  obtain ⟨fd, F⟩ := W.f__law_parity
  refine ⟨_, fd, W.g__law_parity, F.kp, F.bindsN (fun _ _ _ _ _ _ us hl => match us, hl with | [_, _], _ => rfl), okN F sc__law_parity (fun vs H Q E h => ?_) (fun cdv A outer s H vs Q E hr h => ?_)⟩
  · obtain ⟨p, q, cs, v, rfl, _⟩ := h
    rfl
  · have hu := hu_of hr
    obtain ⟨p, q, cs, v, rfl, hp, hv, k⟩ := h
    refine ⟨_, (pss_cons (ps_set (i := 2) sc__law_parity.nd rfl (Or.inl rfl) (pe_slice sl_str pe_str po_none (po_some (pv 1))))
  (pss_one (ps_ret (pe_m1 PySem.F.slot_str_join PySem.F.type_str_join (joinK K) pe_str (pe_lc (own := [("_law_letter", 3)]) rfl sc__law_parity.nd (pi_str (pv 2)) (blkOk_by (own := [("_law_letter", 3)]) (by first | decide +kernel | kernel_rfl)) (fun _ _ _ _ _ => (pg_name (i := 3) sc__law_parity.nd rfl (Or.inl rfl))) (fun _ _ _ _ _ => (pts_one (pt_cmpR op_eq (pe_cal c__law_take (hr.mono (by decide)) (pa_cons (pv 0) (pa_cons pe_int pa_nil))) pe_int (nomark _)))) (fun _ _ _ _ _ => (pv 3))))))), ?_⟩
    walk_at "rd0"
    refine ⟨_, rfl, ?_⟩
    walk_at "rd"
    refine ⟨_, rfl, (by decide), ?_⟩
    have ec : cutS (Str.ofString "abcdef") none (some ((v : Nat) : Int)) = txt (2 ^ v - 1) := t_cut v (by omega)
    rw [ec]
    walk_at "rd"
    refine ⟨_, rfl, fun D hD => lc_draw walk_str ySame_str (by rw [pm_cut v hv]; omega) hD hp (fun i acc _ => ∃ m < 2 ^ i, acc = ((cd m).map lt).map V.str) (fun _ => ⟨0, by decide, rfl⟩) (fun _ _ _ _ h _ => h) (fun i acc _ ⟨m, _, e⟩ => by rw [e]; exact isPool_strs id _) (fun _ _ => trivial) ?_ fun H1 acc s1 p1 hl ha e1 => ?_⟩
    · rintro i x Hc H' R E hi s hpc ⟨rfl, c, hc, rfl⟩ hR hE
      rw [pm_cut v hv] at hi
      rw [pm_at v hv i hi] at hc
      cases hc
      walk_at "wp"
      walk_at "rd"
      refine ⟨rfl, ?_⟩
      walk_at "rd"
      refine ⟨p, q, cs, _, rfl, hpc, by decide, by decide, fun d H2 d0 dn kp pl => ?_⟩
      walk_at "rd"
      refine iteD (fun _ => ?_) (fun _ => ?_)
      · walk_at "rd"
        refine hR _ _ kp pl fun acc _ ⟨m, hm, e⟩ => ?_
        obtain ⟨z1, z2⟩ := pm_step1 i (by omega) m hm
        exact ⟨m + 2 ^ i, z1, by rw [e, z2, List.map_append, List.map_append]; rfl⟩
      · walk_at "rd"
        exact hE _ kp pl fun acc _ ⟨m, hm, e⟩ => ⟨m, pm_step0 i (by omega) m hm, e⟩
    · obtain ⟨m, hm, rfl⟩ := ha
      rw [pm_cut v hv] at hm
      have h16 := pow16 hv hm
      refine ⟨_, D, (cd m).map lt, rfl, rfl, .inl (SqL.of e1), ?_, ?_⟩
      · have q3 : (Str.ofString "").length = 0 := rfl
        rw [q3, lt_sumc]
        have := cd_len m h16
        omega
      · have := t_join m (by omega)
        rw [show Txt.join (Str.ofString "") ((cd m).map lt) = txt m from this]
        exact k m _ hm s1 p1
theorem c_message (W : TW K mg) : Cal P w K mg base 5 "_law_message" P__law_message spMessage := by
  have c__law_take := c_take (P := P) (w := w) (base := base) W
  have c__law_parity := c_parity (P := P) (w := w) (base := base) W
  obtain ⟨fd, F⟩ := W.f__law_message
  refine ⟨_, fd, W.g__law_message, F.kp, F.bindsN (fun _ _ _ _ _ _ us hl => match us, hl with | [_, _], _ => rfl), okN F sc__law_message (fun vs H Q E h => ?_) (fun cdv A outer s H vs Q E hr h => ?_)⟩
  · obtain ⟨p, q, cs, v, rfl, _⟩ := h
    rfl
  · have hu := hu_of hr
    obtain ⟨p, q, cs, v, rfl, hp, h0, hv, k⟩ := h
    refine ⟨_, (pss_cons (ps_set (i := 2) sc__law_message.nd rfl (Or.inl rfl) (pe_slice sl_str pe_str po_none (po_some (pv 1))))
  (pss_cons (ps_set (i := 3) sc__law_message.nd rfl (Or.inl rfl) (pe_cal c__law_parity (hr.mono (by decide)) (pa_cons (pv 0) (pa_cons (pv 1) pa_nil))))
  (pss_one (ps_ret (pe_ifExp (pt_cmpR op_ne (pv 3) pe_str (nomark _)) (pv 3) (pe_ix ix_str (pv 2) (pe_cal c__law_take (hr.mono (by decide)) (pa_cons (pv 0) (pa_cons (pv 1) pa_nil))) (fun _ _ => rfl))))))), ?_⟩
    walk_at "rd0"
    refine ⟨_, rfl, ?_⟩
    walk_at "rd"
    refine ⟨_, rfl, (by decide), ?_⟩
    have ec : cutS (Str.ofString "abcdef") none (some ((v : Nat) : Int)) = txt (2 ^ v - 1) := t_cut v (by omega)
    rw [ec]
    walk_at "rd"
    refine ⟨p, q, cs, v, rfl, hp, hv, fun m H1 hm s1 p1 => ?_⟩
    have h16 := pow16 hv hm
    walk_at "rd"
    have et : decide (txt m = Str.ofString "") = decide (m = 0) := txt_ne' m h16
    rw [et]
    refine iteN (fun c => ?_) (fun c => ?_)
    · walk_at "rd"
      exact k m _ (by omega) hm s1 p1
    · walk_at "rd"
      refine ⟨p, q, cs, _, rfl, p1, by omega, by omega, fun d H2 d0 dn kp pl => ?_⟩
      have hd : d.toNat < v := by omega
      refine r_ixS (c := 97 + d.toNat) ?_ d.toNat (by omega) ?_ ?_
      · show (txt (2 ^ v - 1)).cps.size ≤ sizeLine
        rw [pm_cut v hv]
        have e : sizeLine = 16777216 := sizeLine_eq
        omega
      · rw [Array.getElem?_toList, pm_at v hv _ hd]
      · have := k (2 ^ d.toNat) H2 Nat.one_le_two_pow (bit_lt hd) (s1.trans kp) pl
        have e : tv (2 ^ d.toNat) = .str ⟨#[97 + d.toNat]⟩ := by
          show V.str _ = _
          rw [txt_bit _ (by omega)]
        rw [e] at this
        exact this
theorem c_some (W : TW K mg) : Cal P w K mg base 6 "_law_some_messages" P__law_some_messages spSome := by
  have c__law_take := c_take (P := P) (w := w) (base := base) W
  have c__law_message := c_message (P := P) (w := w) (base := base) W
  obtain ⟨fd, F⟩ := W.f__law_some_messages
  refine ⟨_, fd, W.g__law_some_messages, F.kp, F.bindsN (fun _ _ _ _ _ _ us hl => match us, hl with | [_, _, _], _ => rfl), okN F sc__law_some_messages (fun vs H Q E h => ?_) (fun cdv A outer s H vs Q E hr h => ?_)⟩
  · obtain ⟨p, q, cs, v, m, rfl, _⟩ := h
    rfl
  · have hu := hu_of hr
    obtain ⟨p, q, cs, v, most, rfl, hp, hv, hk, k⟩ := h
    refine ⟨_, (pss_one (ps_ret (pe_lc (own := [("_law_k", 3)]) rfl sc__law_some_messages.nd (pi_range1 rfl W.z_range (pa_cons (pe_cal c__law_take (hr.mono (by decide)) (pa_cons (pv 0) (pa_cons (pe_op op_add (pv 2) pe_int) pa_nil))) pa_nil)) (blkOk_by (own := [("_law_k", 3)]) (by first | decide +kernel | kernel_rfl)) (fun _ _ _ _ _ => (pg_name (i := 3) sc__law_some_messages.nd rfl (Or.inl rfl))) (fun _ _ _ _ _ => (pts_one (pt_cmpR op_gt (pv 1) pe_int (nomark _)))) (fun _ _ _ _ _ => (pe_cal c__law_message (hr.mono (by decide)) (pa_cons (pv 0) (pa_cons (pv 1) pa_nil))))))), ?_⟩
    walk_at "rd0"
    refine ⟨p, q, cs, _, rfl, hp, by omega, by omega, fun d H1 d0 dn s1 p1 => ?_⟩
    walk_at "rd"
    refine ⟨d, rfl, by omega, by omega, fun D hD => lc_draw (walk_range (lo := 0) (n := d.toNat)) ySame_fn (by omega) hD p1 (fun i acc _ => ∃ ms : List Nat, (∀ m ∈ ms, 1 ≤ m ∧ m < 2 ^ v) ∧ acc = ms.map tv) (fun _ => ⟨[], (fun m h => nomatch h), rfl⟩) (fun _ _ _ _ h _ => h) (fun i acc _ ⟨ms, _, e⟩ => by rw [e]; exact isPool_strs txt _) (fun _ _ => trivial) ?_ fun H2 acc s2 p2 hl ha e2 => ?_⟩
    · rintro i x Hc H' R E hi s hpc ⟨rfl, rfl⟩ hR hE
      walk_at "wp"
      walk_at "rd"
      refine ⟨rfl, ?_⟩
      walk_at "rd"
      refine iteD (fun c => ?_) (fun c => ?_)
      · walk_at "rd"
        refine ⟨p, q, cs, v, rfl, hpc, by omega, hv, fun m H2 m1 m2 kp pl => ?_⟩
        refine hR _ _ kp pl fun acc _ ⟨ms, hms, e⟩ => ⟨ms ++ [m], fun x hx => ?_, by rw [e, List.map_append]; rfl⟩
        rcases List.mem_append.mp hx with h | h
        · exact hms x h
        · cases List.mem_singleton.mp h
          exact ⟨m1, m2⟩
      · exact hE _ (Kept.refl _) hpc fun acc _ h => h
    · obtain ⟨ms, hms, rfl⟩ := ha
      rw [List.length_map] at hl
      exact k D ms _ hms (by omega) (s1.dom _ hD) e2 (s1.trans s2) p2
theorem c_shaped (W : TW K mg) : Cal P w K mg base 4 "_law_shaped" P__law_shaped spShaped := by
  have c__law_take := c_take (P := P) (w := w) (base := base) W
  obtain ⟨fd, F⟩ := W.f__law_shaped
  refine ⟨_, fd, W.g__law_shaped, F.kp, F.bindsN (fun _ _ _ _ _ _ us hl => match us, hl with | [_, _], _ => rfl), okN F sc__law_shaped (fun vs H Q E h => ?_) (fun cdv A outer s H vs Q E hr h => ?_)⟩
  · obtain ⟨p, q, a, cs, xs, rfl, _⟩ := h
    rfl
  · have hu := hu_of hr
    obtain ⟨p, q, a, cs, xs, rfl, hp, ha, hn, k⟩ := h
    refine ⟨_, (pss_one (ps_ret (pe_ix (ixT K) (pe_tup (pa_cons (pe_callTy (listK K) rfl W.z_list (by decide +kernel) (pa_cons (pv 1) pa_nil)) (pa_cons (pe_callTy (tupK K) rfl W.z_tuple (by decide +kernel) (pa_cons (pv 1) pa_nil)) pa_nil))) (pe_cal c__law_take (hr.mono (by decide)) (pa_cons (pv 0) (pa_cons pe_int pa_nil))) (fun _ _ => rfl)))), ?_⟩
    walk_at "rd0"
    refine ⟨a, xs, rfl, .inl (SqL.of ha), fun l hl => ?_⟩
    walk_at "rd"
    have ha1 := same_new (o := .lst xs) hl _ _ ha
    refine ⟨a, xs, rfl, .inl ⟨SqL.of ha1, fun t ht => ?_⟩⟩
    have s1 : Same H (upd H l (.lst xs)) := same_new hl
    have s2 := s1.trans (same_new (o := .tup xs) ht)
    have el : upd (upd H l (.lst xs)) t (.tup xs) l = some (.lst xs) := same_new ht _ _ upd_same
    have et : upd (upd H l (.lst xs)) t (.tup xs) t = some (.tup xs) := upd_same
    have ht0 := s1.free ht
    walk_at "rd"
    generalize upd (upd H l (.lst xs)) t (.tup xs) = H1 at s2 el et ⊢
    refine ⟨(by show 2 ≤ sizeLine; decide), fun u hu => ?_⟩
    walk_at "rd"
    have s3 := s2.trans (same_new (o := .tup [.ref l, .ref t]) hu)
    have el3 := same_new (o := .tup [.ref l, .ref t]) hu _ _ el
    have et3 := same_new (o := .tup [.ref l, .ref t]) hu _ _ et
    have eu3 : upd H1 u (.tup [.ref l, .ref t]) u = some (.tup [.ref l, .ref t]) := upd_same
    generalize upd H1 u (.tup [.ref l, .ref t]) = H3 at s3 el3 et3 eu3 ⊢
    refine ⟨p, q, cs, _, rfl, hp.same s3, by decide, by decide, fun d H2 d0 dn kp pl => ?_⟩
    have c : d = 0 ∨ d = 1 := by omega
    rcases c with rfl | rfl
    · refine r_ixT (kp.get eu3) 0 rfl rfl ?_
      exact k false l _ hl (kp.get el3 hn) ((Same.kept s3).trans kp) pl
    · refine r_ixT (kp.get eu3) 1 rfl rfl ?_
      exact k true t _ ht0 (kp.get et3) ((Same.kept s3).trans kp) pl
theorem c_pool (W : TW K mg) : Cal P w K mg base 1 "_law_pool" P__law_pool (spPool K) := by
  obtain ⟨fd, F⟩ := W.f__law_pool
  refine ⟨_, fd, W.g__law_pool, F.kp, F.bindsN (fun _ _ _ _ _ _ us hl => match us, hl with | [_], _ => rfl), okN F sc__law_pool (fun vs H Q E h => ?_) (fun cdv A outer s H vs Q E hr h => ?_)⟩
  · obtain ⟨a, zs, rfl, _⟩ := h
    rfl
  · have hu := hu_of hr
    obtain ⟨a, zs, rfl, ha, hl, k⟩ := h
    refine ⟨_, (pss_one (ps_ret (pe_lst (pa_cons (pe_lc (own := [("_law_cell", 1)]) rfl sc__law_pool.nd (pi_listK K (pv 0)) (blkOk_by (own := [("_law_cell", 1)]) (by first | decide +kernel | kernel_rfl)) (fun _ _ _ _ _ => (pg_name (i := 1) sc__law_pool.nd rfl (Or.inl rfl))) (fun _ _ _ _ _ => pts_nil) (fun _ _ _ _ _ => (pe_ifExp (pt_cmpR op_ge (pv 1) pe_int (nomark _)) (pe_op op_mul pe_int (pv 1)) (pe_op op_sub (pe_op op_mul (pe_un un_neg pe_int) (pv 1)) pe_int)))) (pa_cons pe_int (pa_cons pe_int (pa_cons pe_int pa_nil))))))), ?_⟩
    walk_at "rd0"
    refine ⟨a, rfl, ⟨_, ha⟩, fun D hD => lc_all walk_list ySame_at (by rw [List.length_map]; exact hl) hD (fun i => .int (if zs.getD i 0 ≥ 0 then 2 * zs.getD i 0 else -2 * zs.getD i 0 - 1)) (fun H1 s1 => s1.seq ha) ?_ fun H1 s1 e1 => ?_⟩
    · rintro i x Hc H' R E hi s ⟨rfl, hx⟩ hR
      rw [List.length_map] at hi
      rw [List.getElem?_map, List.getElem?_eq_getElem hi] at hx
      cases hx
      have hg : zs.getD i 0 = zs[i] := by rw [List.getD_eq_getElem?_getD, List.getElem?_eq_getElem hi]; rfl
      rw [hg] at hR
      walk_at "wp"
      walk_at "rd"
      refine ⟨rfl, ?_⟩
      walk_at "rd"
      refine iteD (fun c => ?_) (fun c => ?_)
      · rw [if_pos c] at hR
        walk_at "rd"
        refine r_I (.inl ⟨by decide, by decide⟩) ?_
        exact hR _ (Same.refl _)
      · rw [if_neg c] at hR
        walk_at "rd"
        refine r_I (.inl ⟨by decide, by decide⟩) ?_
        walk_at "rd"
        exact hR _ (Same.refl _)
    · walk_at "rd"
      refine ⟨(by show 4 ≤ sizeLine; decide), fun p hp => ?_⟩
      have e2 : H1 D = some (.lst (((List.range zs.length).map fun i => if zs.getD i 0 ≥ 0 then 2 * zs.getD i 0 else -2 * zs.getD i 0 - 1).map V.int)) := by
        rw [e1, List.length_map, List.map_map]; rfl
      refine k p D _ _ (s1.trans (same_new hp)) ⟨⟨0, 0, 17, upd_same, by decide, by decide, by decide, by decide⟩, same_new hp _ _ e2, fun c hc => ?_⟩
      obtain ⟨i, _, rfl⟩ := List.mem_map.mp hc
      split <;> omega
end
end Kn
set_option Elab.async false
set_option linter.all false
set_option maxRecDepth 100000
set_option maxHeartbeats 4000000
namespace Kn
open PySem PySem.Spec PyProof.Rows L2
/-- a comprehension of new objects: o i of those turns that p keeps -/
theorem lc_new {J : It} {n : Nat} {G : Hp → Prop} {Y : Nat → Hp → V → Hp → Prop} (w : Walk J n G Y) (hY : ∀ i H x H', Y i H x H' → Same H H') {g : TG} {tt : TT} {te : TE} {vs : List Nat} {σ : L2.St} {H1 : Hp} {D : Addr} {Qd : Hp → Prop} (hn : n < 16777216) (hD : H1 D = none)
    (p : Nat → Bool) (o : Nat → HO) (hG : ∀ H, Same H1 H → G H)
    (hs : ∀ i x Hc H' (R : VK) (E : Hp → Prop), i < n → Same H1 Hc → Y i Hc x H' → (p i = true → ∀ a H4, Same H' H4 → Hc a = none → H4 a = some (o i) → R (.ref a) H4) → (p i = false → ∀ H4, Same H' H4 → E H4) →
      g x (wipe σ vs) H' fun σ2 H2 => wipe σ2 vs = wipe σ vs ∧ tt σ2 H2 fun b H3 => if b = true then te σ2 H3 R else E H3)
    (hd : ∀ H' (ts : List (Addr × HO)), Same H1 H' → H' D = some (.lst (ts.map fun t => .ref t.1)) → ts.map (·.2) = ((List.range n).filter p).map o → (∀ t ∈ ts, t.1 ≠ D ∧ H' t.1 = some t.2 ∧ H1 t.1 = none) → (ts.map (·.1)).Nodup → Qd H') :
    ∃ W : Nat → Nat → Hp → Prop, (∃ m, W 0 m (upd H1 D (.lst []))) ∧ ∀ i m H, W i m H →
      (J.stop i H ∧ Qd H) ∨ (J.go i H ∧ ∃ Nx : Hp → Prop, (∀ H', Nx H' → ∃ m', m' < m ∧ W (i + 1) m' H') ∧ ∀ x H', J.yld i H x H' → g x (wipe σ vs) H' fun σ2 H2 => wipe σ2 vs = wipe σ vs ∧ tt σ2 H2 fun b H3 =>
        if b = true then te σ2 H3 fun y H4 => ∃ acc, H4 D = some (.lst acc) ∧ acc.length < sizeLine ∧ Nx (upd H4 D (.lst (acc ++ [y]))) else Nx H3) := by
  refine lc_it w (fun i H => Same H1 H ∧ ∃ ts : List (Addr × HO), H D = some (.lst (ts.map fun t => .ref t.1)) ∧ ts.map (·.2) = ((List.range i).filter p).map o ∧ (∀ t ∈ ts, t.1 ≠ D ∧ H t.1 = some t.2 ∧ H1 t.1 = none) ∧ (ts.map (·.1)).Nodup) ⟨same_new hD, [], upd_same, rfl, (fun t h => nomatch h), List.nodup_nil⟩ (fun i H _ q => hG H q.1) ?_ fun H ⟨s, ts, e, em, k, nd⟩ => hd H ts s e em k nd
  rintro i x Hc H' hi ⟨s, ts, e, em, kk, nd⟩ y
  have hY' := hY _ _ _ _ y
  refine hs i x Hc H' _ _ hi s y (fun hp a H4 s4 ha ea => ?_) fun hp H4 s4 => ?_
  · have s5 := hY'.trans s4
    have hl : ts.length ≤ i := by
      have z := congrArg List.length em
      rw [List.length_map, List.length_map] at z
      rw [z]
      have := List.length_filter_le p (List.range i)
      rwa [List.length_range] at this
    have haD : a ≠ D := fun z => by rw [z, e] at ha; cases ha
    refine ⟨_, s5 _ _ e, ?_, Same.mut (s.trans s5) hD, ts ++ [(a, o i)], by rw [upd_same, List.map_append]; rfl, ?_, fun t ht => ?_, ?_⟩
    · have e : sizeLine = 16777216 := sizeLine_eq
      rw [List.length_map]
      omega
    · rw [List.map_append, em, List.range_succ, List.filter_append, List.map_append]
      simp [hp]
    · rcases List.mem_append.mp ht with h | h
      · obtain ⟨k1, k2, k3⟩ := kk t h
        exact ⟨k1, by rw [upd_ne k1]; exact s5 _ _ k2, k3⟩
      · cases List.mem_singleton.mp h
        exact ⟨haD, by show upd _ _ _ a = _; rw [upd_ne haD]; exact ea, s.free ha⟩
    · rw [List.map_append, List.nodup_append]
      refine ⟨nd, by simp, fun b hb c hc z => ?_⟩
      have hc : c ∈ [a] := hc
      cases List.mem_singleton.mp hc
      subst z
      obtain ⟨t, ht, rfl⟩ := List.mem_map.mp hb
      rw [(kk t ht).2.1] at ha
      cases ha
  · refine ⟨s.trans (hY'.trans s4), ts, hY'.trans s4 _ _ e, ?_, fun t ht => ?_, nd⟩
    · rw [em, List.range_succ, List.filter_append, List.map_append]
      simp [hp]
    · obtain ⟨k1, k2, k3⟩ := kk t ht
      exact ⟨k1, hY'.trans s4 _ _ k2, k3⟩
/-! ### the networks -/
structure Net where
  v : Nat
  rows : List (List Nat)
  links : List (Nat × Nat)
structure NetOK (N : Net) : Prop where
  v : N.v < 5
  r0 : 1 ≤ N.rows.length
  r4 : N.rows.length ≤ 4
  rl : ∀ r ∈ N.rows, r.length ≤ 4
  rm : ∀ r ∈ N.rows, ∀ m ∈ r, 1 ≤ m ∧ m < 2 ^ N.v
  l10 : N.links.length ≤ 10
  lo : ∀ l ∈ N.links, l.1 < N.rows.length ∧ l.2 < N.rows.length ∧ l.1 ≠ l.2
def kvs3 (v : Nat) (ra la : Addr) : List (Key × V) := [(.inr (Str.ofString "variables"), .int (v : Nat)), (.inr (Str.ofString "nodes"), .ref ra), (.inr (Str.ofString "links"), .ref la)]
structure NetX (H : Hp) (d : Addr) (N : Net) (ra la : Addr) (rs : List (Addr × List Nat)) : Prop where
  dict : H d = some (.dK (kvs3 N.v ra la))
  nodes : H ra = some (.lst (rs.map fun r => .ref r.1))
  eq : rs.map (·.2) = N.rows
  cells : ∀ r ∈ rs, H r.1 = some (.lst (r.2.map tv))
  links : H la = some (.lst (N.links.map fun l => .str (lk l)))
def NetAt (H : Hp) (d : Addr) (N : Net) : Prop := ∃ ra la rs, NetX H d N ra la rs
theorem NetX.kept {H H' : Hp} {d : Addr} {N : Net} {ra la : Addr} {rs : List (Addr × List Nat)} (h : NetX H d N ra la rs) (k : Kept H H') : NetX H' d N ra la rs :=
  ⟨k.get h.dict, k.get h.nodes (isPool_refs _ _), h.eq, fun r hr => k.get (h.cells r hr) (isPool_strs _ _), k.get h.links (isPool_strs _ _)⟩
theorem NetX.same {H H' : Hp} {d : Addr} {N : Net} {ra la : Addr} {rs : List (Addr × List Nat)} (h : NetX H d N ra la rs) (k : Same H H') : NetX H' d N ra la rs := h.kept (Same.kept k)
theorem NetAt.kept {H H' : Hp} {d : Addr} {N : Net} (h : NetAt H d N) (k : Kept H H') : NetAt H' d N := let ⟨a, b, c, q⟩ := h; ⟨a, b, c, q.kept k⟩
theorem NetAt.same {H H' : Hp} {d : Addr} {N : Net} (h : NetAt H d N) (k : Same H H') : NetAt H' d N := let ⟨a, b, c, q⟩ := h; ⟨a, b, c, q.same k⟩
theorem k3_ne1 : ¬ ((.inr (Str.ofString "variables") : Key) = .inr (Str.ofString "nodes")) := by decide +kernel
theorem k3_ne2 : ¬ ((.inr (Str.ofString "variables") : Key) = .inr (Str.ofString "links")) := by decide +kernel
theorem k3_ne3 : ¬ ((.inr (Str.ofString "nodes") : Key) = .inr (Str.ofString "links")) := by decide +kernel
theorem kvs3_v (v : Nat) (ra la : Addr) : valV (kvs3 v ra la) (.inr (Str.ofString "variables")) = some (.int (v : Nat)) := valV_pos rfl
theorem kvs3_n (v : Nat) (ra la : Addr) : valV (kvs3 v ra la) (.inr (Str.ofString "nodes")) = some (.ref ra) := by
  unfold kvs3
  rw [valV_neg k3_ne1, valV_pos rfl]
theorem kvs3_l (v : Nat) (ra la : Addr) : valV (kvs3 v ra la) (.inr (Str.ofString "links")) = some (.ref la) := by
  unfold kvs3
  rw [valV_neg k3_ne2, valV_neg k3_ne3, valV_pos rfl]
theorem kvs3_put (v : Nat) (ra la lb : Addr) : putK (kvs3 v ra la) (.inr (Str.ofString "links")) (.ref lb) = kvs3 v ra lb := by
  unfold kvs3 putK
  rw [if_pos (by simp)]
  simp only [List.map_cons, List.map_nil, if_neg k3_ne2, if_neg k3_ne3, if_true]
theorem kvs3_new (v : Nat) (ra la : Addr) : mergeK [] (kvs3 v ra la) = kvs3 v ra la := by
  unfold kvs3 mergeK
  simp only [List.foldl_cons, List.foldl_nil, putK, List.any_nil, List.any_cons, Bool.false_eq_true, if_false, List.nil_append, List.cons_append, decide_eq_true_eq, Bool.or_false, k3_ne1, k3_ne2, k3_ne3, decide_false, Bool.or_self]
section
variable {H : Hp} {d : Addr} {N : Net} {ra la : Addr} {rs : List (Addr × List Nat)}
theorem NetX.gv (h : NetX H d N ra la rs) : DGet H d (.str (Str.ofString "variables")) (some (.int (N.v : Nat))) := by
  have := DGet.k (k := .inr (Str.ofString "variables")) h.dict
  rwa [kvs3_v] at this
theorem NetX.gn (h : NetX H d N ra la rs) : DGet H d (.str (Str.ofString "nodes")) (some (.ref ra)) := by
  have := DGet.k (k := .inr (Str.ofString "nodes")) h.dict
  rwa [kvs3_n] at this
theorem NetX.gl (h : NetX H d N ra la rs) : DGet H d (.str (Str.ofString "links")) (some (.ref la)) := by
  have := DGet.k (k := .inr (Str.ofString "links")) h.dict
  rwa [kvs3_l] at this
theorem NetX.len (h : NetX H d N ra la rs) : rs.length = N.rows.length := by rw [← h.eq, List.length_map]
theorem NetX.row (h : NetX H d N ra la rs) {i : Nat} (hi : i < N.rows.length) : ∃ a, (rs.map fun r => V.ref r.1)[i]? = some (.ref a) ∧ H a = some (.lst ((N.rows.getD i []).map tv)) := by
  have hl : i < rs.length := by rw [h.len]; exact hi
  refine ⟨rs[i].1, by rw [List.getElem?_map, List.getElem?_eq_getElem hl]; rfl, ?_⟩
  have e : N.rows.getD i [] = rs[i].2 := by
    rw [List.getD_eq_getElem?_getD, ← h.eq, List.getElem?_map, List.getElem?_eq_getElem hl]; rfl
  rw [e]
  exact h.cells _ (List.getElem_mem hl)
theorem NetX.link (h : NetX H d N ra la rs) {i : Nat} (hi : i < N.links.length) : (N.links.map fun l => V.str (lk l))[i]? = some (.str (lk (N.links.getD i (0, 0)))) := by
  rw [List.getElem?_map, List.getElem?_eq_getElem hi, List.getD_eq_getElem?_getD, List.getElem?_eq_getElem hi]; rfl
theorem NetOK.row (o : NetOK N) {i : Nat} (hi : i < N.rows.length) : (N.rows.getD i []).length ≤ 4 ∧ ∀ m ∈ N.rows.getD i [], 1 ≤ m ∧ m < 2 ^ N.v := by
  have e : N.rows.getD i [] = N.rows[i] := by rw [List.getD_eq_getElem?_getD, List.getElem?_eq_getElem hi]; rfl
  rw [e]
  exact ⟨o.rl _ (List.getElem_mem hi), o.rm _ (List.getElem_mem hi)⟩
theorem NetOK.link (o : NetOK N) {i : Nat} (hi : i < N.links.length) : (N.links.getD i (0, 0)).1 < N.rows.length ∧ (N.links.getD i (0, 0)).2 < N.rows.length ∧ (N.links.getD i (0, 0)).1 ≠ (N.links.getD i (0, 0)).2 := by
  have e : N.links.getD i (0, 0) = N.links[i] := by rw [List.getD_eq_getElem?_getD, List.getElem?_eq_getElem hi]; rfl
  rw [e]
  exact o.lo _ (List.getElem_mem hi)
end
/-- the messages of the nodes in S -/
def msgsTo (N : Net) (S k : Nat) : List Nat := (List.range k).flatMap fun i => if S.testBit i then N.rows.getD i [] else []
def msgs (N : Net) (S : Nat) : List Nat := msgsTo N S N.rows.length
/-- the links that enter S -/
def enters (S : Nat) (l : Nat × Nat) : Bool := S.testBit l.2 && !S.testBit l.1
def ent (N : Net) (S : Nat) : List Nat := (List.range N.links.length).filter fun k => enters S (N.links.getD k (0, 0))
theorem msgsTo_succ (N : Net) (S k : Nat) : msgsTo N S (k + 1) = msgsTo N S k ++ if S.testBit k then N.rows.getD k [] else [] := by
  unfold msgsTo
  rw [List.range_succ, List.flatMap_append]
  simp
theorem msgsTo_mem {N : Net} (o : NetOK N) {S k : Nat} (hk : k ≤ N.rows.length) : ∀ m ∈ msgsTo N S k, 1 ≤ m ∧ m < 2 ^ N.v := by
  intro m hm
  unfold msgsTo at hm
  obtain ⟨i, hi, h⟩ := List.mem_flatMap.mp hm
  have hi := List.mem_range.mp hi
  split at h
  · exact (o.row (by omega)).2 m h
  · cases h
theorem msgsTo_len {N : Net} (o : NetOK N) {S : Nat} : ∀ {k : Nat}, k ≤ N.rows.length → (msgsTo N S k).length ≤ 4 * k
  | 0, _ => Nat.le_refl _
  | k + 1, hk => by
    have ih := msgsTo_len o (S := S) (k := k) (by omega)
    have := (o.row (i := k) (by omega)).1
    rw [msgsTo_succ, List.length_append]
    split
    · omega
    · rw [List.length_nil]; omega
theorem NetOK.msgs16 {N : Net} (o : NetOK N) {S : Nat} : ∀ m ∈ msgs N S, m < 16 := fun m h => pow16 o.v (msgsTo_mem o (Nat.le_refl _) m h).2
end Kn
set_option Elab.async false
set_option linter.all false
set_option maxRecDepth 100000
set_option maxHeartbeats 4000000
namespace Kn
open PySem PySem.Spec PyProof.Rows L2
local macro_rules | `(tactic| walk_at "hp") => `(tactic| first | assumption | exact upd_same | (rw [upd_ne (by assumption)]; walk_at "hp"))
local macro_rules | `(tactic| walk_at "r1") => `(tactic| first
  | with_reducible refine r_seq ?_
  | with_reducible refine r_asg ?_
  | (with_reducible refine r_name ?_; try dsimp only [List.set_cons_succ, List.set_cons_zero])
  | ((with_reducible refine' r_var (v := ?v1) ?h1 ?q1); (case h1 => exact rfl))
  | with_reducible refine r_c ?_
  | with_reducible refine r_op ?_
  | with_reducible refine r_un ?_
  | with_reducible refine r_I0 ?_
  | with_reducible refine r_U ?_
  | with_reducible refine r_ret ?_
  | with_reducible refine r_retN ?_
  | with_reducible refine r_drop ?_
  | with_reducible refine r_next ?_
  | with_reducible refine r_brk ?_
  | with_reducible refine r_cons ?_
  | with_reducible refine r_nil ?_
  | with_reducible refine r_cb ?_
  | with_reducible refine r_ckw ?_
  | with_reducible refine r_test ?_
  | with_reducible refine r_B ?_
  | with_reducible refine r_blN ?_
  | with_reducible refine r_bl ?_
  | with_reducible refine r_ifS ?_
  | with_reducible refine r_if ?_
  | with_reducible refine r_not ?_
  | with_reducible refine r_and ?_
  | with_reducible refine r_or ?_
  | with_reducible refine r_andV ?_
  | with_reducible refine r_andB ?_
  | with_reducible refine r_notV ?_
  | with_reducible refine r_notB ?_
  | with_reducible refine r_call ?_
  | with_reducible refine r_make ?_
  | with_reducible refine r_meth ?_
  | with_reducible refine r_fld ?_
  | with_reducible refine r_tup ?_
  | with_reducible refine r_lst ?_
  | with_reducible refine r_sub ?_
  | with_reducible refine r_sl ?_
  | with_reducible refine r_nop ?_
  | with_reducible refine r_part ?_
  | with_reducible refine r_pti ?_
  | with_reducible refine r_bm ?_
  | with_reducible refine r_m1 ?_
  | with_reducible refine r_m1s ?_
  | with_reducible refine r_dget ?_
  | with_reducible refine r_eq ?_
  | with_reducible refine r_ne ?_
  | with_reducible refine r_eqS ?_
  | with_reducible refine r_neS ?_
  | with_reducible refine r_for ?_
  | with_reducible refine r_lc ?_
  | with_reducible refine r_yes ?_
  | with_reducible refine r_iStr ?_
  | with_reducible refine r_iList ?_
  | with_reducible refine r_iTup ?_
  | with_reducible refine r_iSq ?_
  | with_reducible refine r_iRng ?_
  | with_reducible refine r_iEnumQ ?_
  | with_reducible refine r_iEnumS ?_
  | with_reducible refine r_iEnum ?_
  | with_reducible refine r_iZip ?_
  | with_reducible refine r_tr ?_
  | with_reducible refine r_iSqK ?_
  | with_reducible refine r_fldS ?_
  | with_reducible refine r_dput ?_
  | with_reducible refine r_din ?_
  | with_reducible refine r_gcons ?_
  | with_reducible refine r_gnil ?_
  | with_reducible refine r_gtup upd_same rfl ?_
  | with_reducible refine r_chain ?_
  | with_reducible refine iteT ?_
  | with_reducible refine iteF ?_)
local macro_rules | `(tactic| walk_at "wp") => `(tactic| dsimp only [wipe, List.map_cons, List.map_nil, List.set_cons_succ, List.set_cons_zero])
local macro_rules | `(tactic| walk_at "rd") => `(tactic| repeat (walk_at "r1"))
local macro_rules | `(tactic| walk_at "rd0") => `(tactic| (simp only [L2.start, List.map_cons, List.map_nil, List.length_cons, List.length_nil, Nat.reduceAdd, Nat.reduceSub, List.replicate_succ, List.replicate_zero, List.nil_append, List.cons_append]; repeat (walk_at "r1")))
local macro_rules | `(tactic| walk_at "wp") => `(tactic| dsimp only [wipe, List.map_cons, List.map_nil, List.set_cons_succ, List.set_cons_zero])
/-! ### sets of nodes, messages of them, links into them -/
abbrev iN (i : Nat) : V := .int (i : Nat)
abbrev sv (S : Nat) : V := .str (nset S)
def spSets : Sp := fun vs H Q _ => ∃ n : Nat, vs = [.int (n : Nat)] ∧ n < 5 ∧ ∀ d (L : List Nat) H', Same H H' → H d = none → H' d = some (.lst (L.map sv)) → L.Perm ((List.range (2 ^ n)).filter fun S => S != 0) → Q (.ref d) H'
def spMsgs : Sp := fun vs H Q _ => ∃ (d : Addr) (N : Net) (S : Nat), vs = [.ref d, sv S] ∧ NetAt H d N ∧ NetOK N ∧ S < 64 ∧ ∀ a H', Same H H' → H a = none → H' a = some (.lst ((msgs N S).map tv)) → Q (.ref a) H'
def spDemand : Sp := fun vs H Q _ => ∃ (d : Addr) (N : Net) (S : Nat), vs = [.ref d, sv S] ∧ NetAt H d N ∧ NetOK N ∧ S < 64 ∧ ∀ H', Same H H' → Q (.int (((rk (msgs N 63) : Nat) : Int) - ((rk (msgs N S) : Nat) : Int))) H'
def spEnt : Sp := fun vs H Q _ => ∃ (d : Addr) (N : Net) (S : Nat), vs = [.ref d, sv S] ∧ NetAt H d N ∧ NetOK N ∧ S < 64 ∧ ∀ a H', Same H H' → H a = none → H' a = some (.lst ((ent N S).map iN)) → Q (.ref a) H'
def spDef : Sp := fun vs H Q _ => ∃ (d : Addr) (N : Net), vs = [.ref d] ∧ NetAt H d N ∧ NetOK N ∧ ∀ S H', Same H H' → S < 2 ^ N.rows.length → Q (sv S) H'
theorem ns_size : ∀ n < 5, (nset (2 ^ n - 1)).cps.size = n := by decide +kernel
theorem ns_at : ∀ n < 5, ∀ i < n, (nset (2 ^ n - 1)).cps[i]? = some (65 + i) := by decide +kernel
theorem ns_cat : ∀ i < 4, ∀ S < 2 ^ i, nset S ++ (⟨#[65 + i]⟩ : Str) = nset (S + 2 ^ i) := by decide +kernel
theorem ns_len : ∀ S < 64, (nset S).length ≤ 6 := by decide +kernel
theorem ns_ne : ∀ S < 64, decide (nset S = Str.ofString "") = decide (S = 0) := by decide +kernel
theorem ns_at6 : ∀ i < 6, (Str.ofString "ABCDEF").cps.toList[i]? = some (65 + i) := by decide +kernel
theorem ns_all : Str.ofString "ABCDEF" = nset 63 := by decide +kernel
theorem sv_map (L : List Nat) : L.map sv = L.map fun S => V.str (nset S) := rfl
theorem pow_len {i : Nat} (h : i < 5) : 2 ^ i ≤ 16 := Nat.pow_le_pow_right (n := 2) (by decide) (by omega : i ≤ 4)
theorem lt64 {n S : Nat} (hn : n < 5) (h : S < 2 ^ n) : S < 64 := by have := pow_len hn; omega
/-- an arrangement of the first parts arranges the pairs -/
theorem perm_lift {α β : Type} {ys zs : List α} (h : ys.Perm zs) : ∀ {ts : List (α × β)}, zs = ts.map (·.1) → ∃ ts' : List (α × β), ts'.Perm ts ∧ ys = ts'.map (·.1) := by
  induction h with
  | nil =>
    intro ts e
    cases ts with
    | nil => exact ⟨[], .nil, rfl⟩
    | cons a r => cases e
  | cons x _ ih =>
    intro ts e
    cases ts with
    | nil => cases e
    | cons t r =>
      rw [List.map_cons] at e
      obtain ⟨e1, e2⟩ := List.cons.inj e
      obtain ⟨r', p, q⟩ := ih e2
      exact ⟨t :: r', p.cons t, by rw [List.map_cons, e1, q]⟩
  | swap x y l =>
    intro ts e
    match ts, e with
    | a :: b :: r, e =>
      rw [List.map_cons, List.map_cons] at e
      obtain ⟨e1, e2⟩ := List.cons.inj e
      obtain ⟨e2, e3⟩ := List.cons.inj e2
      exact ⟨b :: a :: r, .swap .., by rw [List.map_cons, List.map_cons, e1, e2, e3]⟩
  | trans _ _ h1 h2 =>
    intro ts e
    obtain ⟨t2, p2, q2⟩ := h2 e
    obtain ⟨t1, p1, q1⟩ := h1 q2
    exact ⟨t1, p1.trans p2, q1⟩
theorem perm_map {α β : Type} {f : β → α} {ys : List α} {l : List β} (h : ys.Perm (l.map f)) : ∃ l' : List β, l'.Perm l ∧ ys = l'.map f := by
  obtain ⟨ts, p, q⟩ := perm_lift h (ts := l.map fun x => (f x, x)) (by rw [List.map_map]; rfl)
  refine ⟨ts.map (·.2), ?_, ?_⟩
  · have := p.map (·.2)
    rw [List.map_map] at this
    have e : List.map ((fun x : α × β => x.2) ∘ fun x => (f x, x)) l = List.map id l := rfl
    rw [e, List.map_id] at this
    exact this
  · rw [q, List.map_map]
    refine List.map_congr_left fun t ht => ?_
    obtain ⟨x, _, rfl⟩ := List.mem_map.mp (p.mem_iff.mp ht)
    rfl
section
variable {P : Program} {w : World} {K : PySem.W.Frag} {mg : Str → Option Value} {base : Heap}
theorem c_msgs (W : TW K mg) : Cal P w K mg base 1 "_law_messages_of" P__law_messages_of spMsgs := by
  obtain ⟨fd, F⟩ := W.f__law_messages_of
  refine ⟨_, fd, W.g__law_messages_of, F.kp, F.bindsN (fun _ _ _ _ _ _ us hl => match us, hl with | [_, _], _ => rfl), okN F sc__law_messages_of (fun vs H Q E h => ?_) (fun cdv A outer s H vs Q E hr h => ?_)⟩
  · obtain ⟨d, N, S, rfl, _⟩ := h
    rfl
  · have hu := hu_of hr
    obtain ⟨d, N, S, rfl, ⟨ra, la, rs, hN⟩, ok, hS, k⟩ := h
    refine ⟨_, (pss_cons (ps_set (i := 2) sc__law_messages_of.nd rfl (Or.inl rfl) (pe_lst pa_nil))
  (pss_cons (ps_for PassesOwn.never rfl (pi_range1 rfl W.z_range (pa_cons (pe_callB (lenK K) rfl W.z_len PySem.boot_len (pa_cons (pe_dget hu (pv 0) pe_str (fun _ _ => rfl)) pa_nil)) pa_nil)) (pg_name (i := 3) sc__law_messages_of.nd rfl (Or.inl rfl))
   (pss_one (ps_if (pt_cmpR op_in_sign (pe_ix ix_str pe_str (pv 3) (fun _ _ => rfl)) (pv 1) rfl)
   (pss_one (ps_expr (pe_bmK K PySem.F.plainAttrs_list PySem.F.slot_list_extend PySem.F.type_list_extend mt_extend (pv 2) (pa_cons (pe_ix (ixL K) (pe_dget hu (pv 0) pe_str (fun _ _ => rfl)) (pv 3) (fun _ _ => rfl)) pa_nil))))
   pss_nil)))
  (pss_one (ps_ret (pv 2))))), ?_⟩
    walk_at "rd0"
    refine ⟨Nat.zero_le _, fun f hf => ?_⟩
    have s1 : Same H (upd H f (.lst [])) := same_new hf
    have ef : upd H f (.lst []) f = some (.lst []) := upd_same
    generalize upd H f (.lst []) = H1 at s1 ef ⊢
    walk_at "rd"
    refine ⟨d, _, rfl, (hN.same s1).gn, ?_⟩
    walk_at "rd"
    refine ⟨_, _, rfl, .inl ⟨_, SqL.of (hN.same s1).nodes, by rw [List.length_map]⟩, ?_⟩
    rw [hN.len]
    have hr4 := ok.r4
    walk_at "rd"
    refine ⟨_, rfl, by omega, by omega, for_w (walk_range (lo := 0) (n := ((N.rows.length : Nat) : Int).toNat)) (fun i σ H' => Same H H' ∧ H' f = some (.lst ((msgsTo N S i).map tv)) ∧ ∃ v, σ = [some (.ref d), some (sv S), some (.ref f), v])
      (by exact ⟨s1, ef, none, rfl⟩) (fun _ _ _ _ _ => trivial) ?_ ?_⟩
    · rintro i y σ H2 H3 hi ⟨s2, e2, v, rfl⟩ ⟨rfl, rfl⟩
      have hi' : i < N.rows.length := by omega
      walk_at "rd"
      refine r_ixS (by decide) i (by omega) (ns_at6 i (by omega)) ?_
      walk_at "rd"
      refine ⟨_, _, rfl, rfl, ?_⟩
      rw [nl_in i (by omega) S hS]
      have hl := msgsTo_len ok (S := S) (k := i) (by omega)
      have e16 : sizeLine = 16777216 := sizeLine_eq
      cases c : S.testBit i with
      | true =>
        walk_at "rd"
        refine ⟨.inl ⟨rfl, _, SqL.of e2⟩, ?_⟩
        walk_at "rd"
        refine ⟨d, _, rfl, (hN.same s2).gn, ?_⟩
        walk_at "rd"
        obtain ⟨a, h1, h2⟩ := (hN.same s2).row hi'
        refine r_ixL (hN.same s2).nodes i (by omega) h1 ?_
        walk_at "rd"
        have hl2 := (ok.row hi').1
        refine ⟨f, a, _, _, rfl, rfl, e2, h2, by rw [List.length_map, List.length_map]; omega, ?_⟩
        walk_at "rd"
        refine ⟨Same.mut s2 hf, ?_, _, rfl⟩
        rw [upd_same, msgsTo_succ, c, if_pos rfl, List.map_append]
      | false =>
        walk_at "rd"
        refine ⟨s2, ?_, _, rfl⟩
        rw [msgsTo_succ, c, if_neg Bool.false_ne_true, List.append_nil]
        exact e2
    · rintro σ H2 ⟨s2, e2, v, rfl⟩
      walk_at "rd"
      exact k f _ s2 hf e2
theorem c_demand (W : TW K mg) : Cal P w K mg base 4 "_law_demand" P__law_demand spDemand := by
  have c__law_rank := c_rk (P := P) (w := w) (base := base) W
  have c__law_messages_of := c_msgs (P := P) (w := w) (base := base) W
  obtain ⟨fd, F⟩ := W.f__law_demand
  refine ⟨_, fd, W.g__law_demand, F.kp, F.bindsN (fun _ _ _ _ _ _ us hl => match us, hl with | [_, _], _ => rfl), okN F sc__law_demand (fun vs H Q E h => ?_) (fun cdv A outer s H vs Q E hr h => ?_)⟩
  · obtain ⟨d, N, S, rfl, _⟩ := h
    rfl
  · have hu := hu_of hr
    obtain ⟨d, N, S, rfl, hN, ok, hS, k⟩ := h
    refine ⟨_, (pss_one (ps_ret (pe_op op_sub (pe_cal c__law_rank (hr.mono (by decide)) (pa_cons (pe_cal c__law_messages_of (hr.mono (by decide)) (pa_cons (pv 0) (pa_cons pe_str pa_nil))) pa_nil)) (pe_cal c__law_rank (hr.mono (by decide)) (pa_cons (pe_cal c__law_messages_of (hr.mono (by decide)) (pa_cons (pv 0) (pa_cons (pv 1) pa_nil))) pa_nil))))), ?_⟩
    walk_at "rd0"
    refine ⟨d, N, 63, by rw [ns_all]; rfl, hN, ok, by decide, fun a H1 s1 ha e1 => ?_⟩
    walk_at "rd"
    refine ⟨a, _, rfl, e1, ok.msgs16, fun H2 s2 => ?_⟩
    walk_at "rd"
    refine ⟨d, N, S, rfl, hN.same (s1.trans s2), ok, hS, fun a2 H3 s3 ha2 e3 => ?_⟩
    walk_at "rd"
    refine ⟨a2, _, rfl, e3, ok.msgs16, fun H4 s4 => ?_⟩
    walk_at "rd"
    exact k _ (((s1.trans s2).trans s3).trans s4)
theorem c_ent (W : TW K mg) : Cal P w K mg base 1 "_law_entering" P__law_entering spEnt := by
  obtain ⟨fd, F⟩ := W.f__law_entering
  refine ⟨_, fd, W.g__law_entering, F.kp, F.bindsN (fun _ _ _ _ _ _ us hl => match us, hl with | [_, _], _ => rfl), okN F sc__law_entering (fun vs H Q E h => ?_) (fun cdv A outer s H vs Q E hr h => ?_)⟩
  · obtain ⟨d, N, S, rfl, _⟩ := h
    rfl
  · have hu := hu_of hr
    obtain ⟨d, N, S, rfl, ⟨ra, la, rs, hN⟩, ok, hS, k⟩ := h
    refine ⟨_, (pss_one (ps_ret (pe_lc (own := [("_law_k", 2)]) rfl sc__law_entering.nd (pi_range1 rfl W.z_range (pa_cons (pe_callB (lenK K) rfl W.z_len PySem.boot_len (pa_cons (pe_dget hu (pv 0) pe_str (fun _ _ => rfl)) pa_nil)) pa_nil)) (blkOk_by (own := [("_law_k", 2)]) (by first | decide +kernel | kernel_rfl)) (fun _ _ _ _ _ => (pg_name (i := 2) sc__law_entering.nd rfl (Or.inl rfl))) (fun _ _ _ _ _ => (pts_one (PW.pt (pw_and (pt_cmpR op_in_sign (pe_ix ix_str (pe_ix (ixL K) (pe_dget hu (pv 0) pe_str (fun _ _ => rfl)) (pv 2) (fun _ _ => rfl)) pe_int (fun _ _ => rfl)) (pv 1) rfl) (pw_and1 (pt_cmpR op_notIn_sign (pe_ix ix_str (pe_ix (ixL K) (pe_dget hu (pv 0) pe_str (fun _ _ => rfl)) (pv 2) (fun _ _ => rfl)) pe_int (fun _ _ => rfl)) (pv 1) rfl)))))) (fun _ _ _ _ _ => (pv 2))))), ?_⟩
    walk_at "rd0"
    refine ⟨d, _, rfl, hN.gl, ?_⟩
    walk_at "rd"
    refine ⟨_, _, rfl, .inl ⟨_, SqL.of hN.links, by rw [List.length_map]⟩, ?_⟩
    have hl := ok.l10
    have hr4 := ok.r4
    walk_at "rd"
    refine ⟨_, rfl, by omega, by omega, fun D hD => lc_pure (walk_range (lo := 0) (n := ((N.links.length : Nat) : Int).toNat)) ySame_fn (by omega) hD (fun i => enters S (N.links.getD i (0, 0))) (fun i => iN i) (fun _ _ => trivial) ?_ fun H1 s1 e1 => ?_⟩
    · rintro i x Hc H' R E hi s ⟨rfl, rfl⟩ hR hE
      have hi' : i < N.links.length := by omega
      have hN' := hN.same s
      obtain ⟨l1, l2, _⟩ := ok.link hi'
      walk_at "wp"
      walk_at "rd"
      refine ⟨rfl, ?_⟩
      walk_at "rd"
      refine ⟨d, _, rfl, hN'.gl, ?_⟩
      walk_at "rd"
      refine r_ixL hN'.links i (by omega) (hN'.link hi') ?_
      walk_at "rd"
      refine r_ixS (lk_len _) 1 rfl (lk_1 _) ?_
      walk_at "rd"
      refine ⟨_, _, rfl, rfl, ?_⟩
      rw [nl_in _ (by omega) S hS]
      have he : enters S (N.links.getD i (0, 0)) = (S.testBit (N.links.getD i (0, 0)).2 && !S.testBit (N.links.getD i (0, 0)).1) := rfl
      cases c : S.testBit (N.links.getD i (0, 0)).2 with
      | true =>
        walk_at "rd"
        refine ⟨d, _, rfl, hN'.gl, ?_⟩
        walk_at "rd"
        refine r_ixL hN'.links i (by omega) (hN'.link hi') ?_
        walk_at "rd"
        refine r_ixS (lk_len _) 0 rfl (lk_0 _) ?_
        walk_at "rd"
        refine ⟨_, _, rfl, rfl, ?_⟩
        rw [nl_in _ (by omega) S hS]
        cases c2 : S.testBit (N.links.getD i (0, 0)).1 with
        | true =>
          walk_at "rd"
          exact hE (by rw [he, c, c2]; rfl) _ (Same.refl _)
        | false =>
          walk_at "rd"
          refine iteT ?_
          walk_at "rd"
          have := hR (by rw [he, c, c2]; rfl) _ (Same.refl _)
          rw [show (0 : Int) + ((i : Nat) : Int) = ((i : Nat) : Int) from Int.zero_add _]
          exact this
      | false =>
        walk_at "rd"
        exact hE (by rw [he, c]; rfl) _ (Same.refl _)
    · exact k D _ s1 hD e1
theorem sets_range : ∀ n < 5, (((List.range (2 ^ n)).filter fun S => S != 0).length ≤ 15) := by decide +kernel
theorem c_sets (W : TW K mg) : Cal P w K mg base 1 "_law_sets" P__law_sets spSets := by
  obtain ⟨fd, F⟩ := W.f__law_sets
  refine ⟨_, fd, W.g__law_sets, F.kp, F.bindsN (fun _ _ _ _ _ _ us hl => match us, hl with | [_], _ => rfl), okN F sc__law_sets (fun vs H Q E h => ?_) (fun cdv A outer s H vs Q E hr h => ?_)⟩
  · obtain ⟨n, rfl, _⟩ := h
    rfl
  · have hu := hu_of hr
    obtain ⟨n, rfl, hn, k⟩ := h
    have e16 : sizeLine = 16777216 := sizeLine_eq
    refine ⟨_, (pss_cons (ps_set (i := 1) sc__law_sets.nd rfl (Or.inl rfl) (pe_lst (pa_cons pe_str pa_nil)))
  (pss_cons (ps_for PassesOwn.never rfl (pi_str (pe_slice sl_str pe_str po_none (po_some (pv 0)))) (pg_name (i := 2) sc__law_sets.nd rfl (Or.inr rfl))
   (pss_one (ps_set (i := 1) sc__law_sets.nd rfl (Or.inl rfl) (pe_op op_cat (pv 1) (pe_lc (own := [("_law_one", 3)]) rfl sc__law_sets.nd (pi_listK K (pv 1)) (blkOk_by (own := [("_law_one", 3)]) (by first | decide +kernel | kernel_rfl)) (fun _ _ _ _ _ => (pg_name (i := 3) sc__law_sets.nd rfl (Or.inl rfl))) (fun _ _ _ _ _ => pts_nil) (fun _ _ _ _ _ => (pe_op op_add_str (pv 3) (pv 2))))))))
  (pss_one (ps_ret (pe_lc (own := [("_law_pair", 4)]) rfl sc__law_sets.nd (pi_listK K (pe_callB (sortedMK K) rfl W.z_sorted (by decide +kernel) (pa_cons (pe_lc (own := [("_law_one", 3)]) rfl sc__law_sets.nd (pi_listK K (pv 1)) (blkOk_by (own := [("_law_one", 3)]) (by first | decide +kernel | kernel_rfl)) (fun _ _ _ _ _ => (pg_name (i := 3) sc__law_sets.nd rfl (Or.inl rfl))) (fun _ _ _ _ _ => (pts_one (pt_cmpR op_ne (pv 3) pe_str (nomark _)))) (fun _ _ _ _ _ => (pe_tup (pa_cons (pe_callB (lenK K) rfl W.z_len PySem.boot_len (pa_cons (pv 3) pa_nil)) (pa_cons (pv 3) pa_nil))))) pa_nil))) (blkOk_by (own := [("_law_pair", 4)]) (by first | decide +kernel | kernel_rfl)) (fun _ _ _ _ _ => (pg_name (i := 4) sc__law_sets.nd rfl (Or.inl rfl))) (fun _ _ _ _ _ => pts_nil) (fun _ _ _ _ _ => (pe_ix (ixT K) (pv 4) pe_int (fun _ _ => rfl)))))))), ?_⟩
    walk_at "rd0"
    refine ⟨(by show 1 ≤ sizeLine; decide), fun f hf => ?_⟩
    walk_at "rd"
    refine ⟨_, rfl, ?_⟩
    walk_at "rd"
    refine ⟨_, rfl, (by decide), ?_⟩
    have ec : cutS (Str.ofString "ABCDEF") none (some ((n : Nat) : Int)) = nset (2 ^ n - 1) := n_cut n (by omega)
    rw [ec]
    walk_at "rd"
    refine ⟨_, rfl, for_w walk_str (fun i σ H' => ∃ f v u, σ = [some (.int (n : Nat)), some (.ref f), v, u, none] ∧ Same H H' ∧ H f = none ∧ H' f = some (.lst ((List.range (2 ^ i)).map sv)))
      (by exact ⟨f, none, none, rfl, same_new hf, hf, upd_same⟩) (fun _ _ _ _ _ => trivial) ?_ ?_⟩
    · rintro i y σ H2 H3 hi ⟨f, v, u, rfl, s2, hf, e2⟩ ⟨rfl, c, hc, rfl⟩
      rw [ns_size n hn] at hi
      rw [ns_at n hn i hi] at hc
      cases hc
      have hp := pow_len (i := i) (by omega)
      walk_at "rd"
      refine ⟨f, rfl, ⟨_, SqL.of e2⟩, fun D hD => lc_all walk_list ySame_at (by rw [List.length_map, List.length_range]; omega) hD (fun j => sv (j + 2 ^ i)) (fun H3 s3 => SqL.of (s3 _ _ e2)) ?_ fun H3 s3 e3 => ?_⟩
      · rintro j z Hc H' R E hj s ⟨rfl, hz⟩ hR
        rw [List.length_map, List.length_range] at hj
        rw [List.getElem?_map, List.getElem?_range hj] at hz
        cases hz
        walk_at "wp"
        walk_at "rd"
        refine ⟨rfl, ?_⟩
        walk_at "rd"
        refine ⟨_, _, rfl, rfl, ?_, ?_⟩
        · have := ns_len j (by omega)
          show (nset j).length + 1 ≤ sizeLine
          omega
        · rw [ns_cat i (by omega) j hj]
          exact hR _ (Same.refl _)
      · rw [List.length_map, List.length_range] at e3
        refine ⟨f, D, _, _, rfl, rfl, s3 _ _ e2, e3, ?_, fun p hp => ?_⟩
        · simp only [List.length_map, List.length_range]
          omega
        · walk_at "rd"
          refine ⟨p, _, _, rfl, (s2.trans s3).trans (same_new hp), (s2.trans s3).free hp, ?_⟩
          rw [upd_same, Nat.pow_succ, Nat.mul_two, List.range_add, List.map_append, List.map_map]
          have e : (sv ∘ fun x => 2 ^ i + x) = fun j => sv (j + 2 ^ i) := funext fun j => by
            show sv (2 ^ i + j) = _
            rw [Nat.add_comm]
          rw [e]
    · rintro σ H2 ⟨f, v, u, rfl, s2, hf, e2⟩
      rw [ns_size n hn] at e2
      have hp := pow_len hn
      walk_at "rd"
      refine ⟨f, rfl, ⟨_, SqL.of e2⟩, fun D hD => lc_new walk_list ySame_at (by rw [List.length_map, List.length_range]; omega) hD (fun S => S != 0) (fun S => .tup [.int ((nset S).length : Nat), sv S]) (fun H3 s3 => SqL.of (s3 _ _ e2)) ?_ fun H3 ts s3 e3 em kk _ => ?_⟩
      · rintro S z Hc H' R E hj s ⟨rfl, hz⟩ hR hE
        rw [List.length_map, List.length_range] at hj
        rw [List.getElem?_map, List.getElem?_range hj] at hz
        cases hz
        walk_at "wp"
        walk_at "rd"
        refine ⟨rfl, ?_⟩
        walk_at "rd"
        rw [ns_ne S (by omega)]
        refine iteN (fun c => ?_) (fun c => ?_)
        · walk_at "rd"
          refine ⟨_, _, rfl, ⟨?_, rfl⟩, ?_⟩
          · have := ns_len S (by omega)
            omega
          walk_at "rd"
          refine ⟨(by show 2 ≤ sizeLine; decide), fun T hT => ?_⟩
          exact hR (by simpa using c) T _ (same_new hT) hT upd_same
        · exact hE (by simpa using c) _ (Same.refl _)
      · rw [List.length_map, List.length_range] at em
        walk_at "rd"
        have emL : ts.map (·.2) = (((List.range (2 ^ n)).filter fun S => S != 0)).map fun S => HO.tup [.int ((nset S).length : Nat), sv S] := em
        have hin : ∀ t ∈ ts, ∃ S, H3 t.1 = some (.tup [.int ((nset S).length : Nat), sv S]) := fun t ht => by
          have h1 : t.2 ∈ ts.map (·.2) := List.mem_map.mpr ⟨t, ht, rfl⟩
          rw [emL] at h1
          obtain ⟨S, _, e⟩ := List.mem_map.mp h1
          exact ⟨S, by rw [(kk t ht).2.1, ← e]⟩
        refine ⟨D, ts.map (·.1), false, [true], rfl, SqL.of (by rw [e3, List.map_map]; rfl), fun a ha => ?_, fun ys L hp' hL => ?_⟩
        · obtain ⟨t, ht, rfl⟩ := List.mem_map.mp ha
          obtain ⟨S, e⟩ := hin t ht
          exact ⟨[.int ((nset S).length : Nat), sv S], trivial, e⟩
        · obtain ⟨ts2, hp2, rfl⟩ := perm_lift hp' rfl
          have h2 := hp2.map (·.2)
          rw [emL] at h2
          obtain ⟨L', hp3, e3'⟩ := perm_map h2
          have hk2 : ∀ t ∈ ts2, H3 t.1 = some t.2 := fun t ht => (kk t (hp2.mem_iff.mp ht)).2.1
          have hL' : L'.length = ts2.length := by
            have := congrArg List.length e3'
            rw [List.length_map, List.length_map] at this
            exact this.symm
          have hlt : ts2.length ≤ 15 := by
            rw [← hL', hp3.length_eq]
            exact sets_range n hn
          have s4 : Same H3 (upd H3 L (.lst ((ts2.map (·.1)).map V.ref))) := same_new hL
          have eL : upd H3 L (.lst ((ts2.map (·.1)).map V.ref)) L = some (.lst ((ts2.map (·.1)).map V.ref)) := upd_same
          generalize upd H3 L (.lst ((ts2.map (·.1)).map V.ref)) = H4 at s4 eL ⊢
          refine ⟨L, rfl, ⟨_, SqL.of eL⟩, fun D2 hD2 => lc_all walk_list ySame_at (by rw [List.length_map, List.length_map]; omega) hD2 (fun j => sv (L'.getD j 0)) (fun H5 s5 => SqL.of (s5 _ _ eL)) ?_ fun H5 s5 e5 => ?_⟩
          · rintro j z Hc H' R E hj s ⟨rfl, hz⟩ hR
            rw [List.length_map, List.length_map] at hj
            rw [List.getElem?_map, List.getElem?_map, List.getElem?_eq_getElem hj] at hz
            cases hz
            have hj2 : j < L'.length := by omega
            have eo := hk2 _ (List.getElem_mem hj)
            have e6 : ts2[j].2 = .tup [.int ((nset (L'.getD j 0)).length : Nat), sv (L'.getD j 0)] := by
              have z1 : (ts2.map (·.2))[j]? = some ts2[j].2 := by rw [List.getElem?_map, List.getElem?_eq_getElem hj]; rfl
              rw [e3', List.getElem?_map, List.getElem?_eq_getElem hj2] at z1
              have z2 : L'.getD j 0 = L'[j] := by rw [List.getD_eq_getElem?_getD, List.getElem?_eq_getElem hj2]; rfl
              rw [z2]
              exact (Option.some.inj z1).symm
            rw [e6] at eo
            walk_at "wp"
            walk_at "rd"
            refine ⟨rfl, ?_⟩
            walk_at "rd"
            refine r_ixT (s _ _ (s4 _ _ eo)) 1 rfl rfl ?_
            exact hR _ (Same.refl _)
          · refine k D2 L' _ (((s2.trans s3).trans s4).trans s5) (((s2.trans s3).trans s4).free hD2) ?_ hp3
            rw [e5, List.length_map, List.length_map, ← hL']
            congr 2
            refine List.ext_getElem (by simp) fun j h1 h2 => ?_
            simp at h1 h2
            simp [h1]
theorem c_def (W : TW K mg) : Cal P w K mg base 5 "_law_deficient" P__law_deficient spDef := by
  have c__law_sets := c_sets (P := P) (w := w) (base := base) W
  have c__law_entering := c_ent (P := P) (w := w) (base := base) W
  have c__law_demand := c_demand (P := P) (w := w) (base := base) W
  obtain ⟨fd, F⟩ := W.f__law_deficient
  refine ⟨_, fd, W.g__law_deficient, F.kp, F.bindsN (fun _ _ _ _ _ _ us hl => match us, hl with | [_], _ => rfl), okN F sc__law_deficient (fun vs H Q E h => ?_) (fun cdv A outer s H vs Q E hr h => ?_)⟩
  · obtain ⟨d, N, rfl, _⟩ := h
    rfl
  · have hu := hu_of hr
    obtain ⟨d, N, rfl, ⟨ra, la, rs, hN⟩, ok, k⟩ := h
    have hn := ok.r4
    refine ⟨_, (pss_cons (ps_for PassesOwn.never rfl (pi_listK K (pe_cal c__law_sets (hr.mono (by decide)) (pa_cons (pe_callB (lenK K) rfl W.z_len PySem.boot_len (pa_cons (pe_dget hu (pv 0) pe_str (fun _ _ => rfl)) pa_nil)) pa_nil))) (pg_name (i := 1) sc__law_deficient.nd rfl (Or.inl rfl))
   (pss_one (ps_if (pt_cmpR op_lt (pe_callB (lenK K) rfl W.z_len PySem.boot_len (pa_cons (pe_cal c__law_entering (hr.mono (by decide)) (pa_cons (pv 0) (pa_cons (pv 1) pa_nil))) pa_nil)) (pe_cal c__law_demand (hr.mono (by decide)) (pa_cons (pv 0) (pa_cons (pv 1) pa_nil))) (nomark _))
   (pss_one (ps_ret (pv 1)))
   pss_nil)))
  (pss_one (ps_ret pe_str))), ?_⟩
    walk_at "rd0"
    refine ⟨d, _, rfl, hN.gn, ?_⟩
    walk_at "rd"
    refine ⟨_, _, rfl, .inl ⟨_, SqL.of hN.nodes, by rw [List.length_map]⟩, ?_⟩
    rw [hN.len]
    walk_at "rd"
    refine ⟨N.rows.length, rfl, by omega, fun a L H1 s1 ha e1 hp => ?_⟩
    have hLm : ∀ S ∈ L, S < 2 ^ N.rows.length := fun S hS => List.mem_range.mp (List.mem_filter.mp (hp.mem_iff.mp hS)).1
    refine ⟨a, rfl, ⟨_, SqL.of e1⟩, for_w walk_list (fun i σ H' => Same H1 H' ∧ ∃ v, σ = [some (.ref d), v]) (by exact ⟨Same.refl _, none, rfl⟩) (fun i σ H' _ q => SqL.of (q.1 _ _ e1)) ?_ ?_⟩
    · rintro i y σ H2 H3 hi ⟨s2, v, rfl⟩ ⟨rfl, hy⟩
      rw [List.length_map] at hi
      rw [List.getElem?_map, List.getElem?_eq_getElem hi] at hy
      cases hy
      have hS := hLm _ (List.getElem_mem hi)
      have h64 := lt64 (by omega) hS
      have s02 := s1.trans s2
      walk_at "rd"
      refine ⟨d, N, L[i], rfl, ⟨ra, la, rs, hN.same s02⟩, ok, h64, fun b H3 s3 hb e3 => ?_⟩
      walk_at "rd"
      refine ⟨_, _, rfl, .inl ⟨_, SqL.of e3, by rw [List.length_map]⟩, ?_⟩
      walk_at "rd"
      refine ⟨d, N, L[i], rfl, ⟨ra, la, rs, hN.same (s02.trans s3)⟩, ok, h64, fun H4 s4 => ?_⟩
      walk_at "rd"
      refine iteD (fun c => ?_) (fun c => ?_)
      · walk_at "rd"
        exact k _ _ ((s02.trans s3).trans s4) hS
      · walk_at "rd"
        exact ⟨(s2.trans s3).trans s4, _, rfl⟩
    · rintro σ H2 ⟨s2, v, rfl⟩
      walk_at "rd"
      have e0 : V.str (Str.ofString "") = sv 0 := by
        show V.str _ = V.str _
        congr 1
      rw [e0]
      exact k 0 _ (s1.trans s2) Nat.one_le_two_pow
end
end Kn
set_option Elab.async false
set_option linter.all false
set_option maxRecDepth 100000
set_option maxHeartbeats 4000000
namespace Kn
open PySem PySem.Spec PyProof.Rows L2
local macro_rules | `(tactic| walk_at "hp") => `(tactic| first | assumption | exact upd_same | (rw [upd_ne (by assumption)]; walk_at "hp"))
local macro_rules | `(tactic| walk_at "r1") => `(tactic| first
  | with_reducible refine r_seq ?_
  | with_reducible refine r_asg ?_
  | (with_reducible refine r_name ?_; try dsimp only [List.set_cons_succ, List.set_cons_zero])
  | ((with_reducible refine' r_var (v := ?v1) ?h1 ?q1); (case h1 => exact rfl))
  | with_reducible refine r_c ?_
  | with_reducible refine r_op ?_
  | with_reducible refine r_un ?_
  | with_reducible refine r_I0 ?_
  | with_reducible refine r_U ?_
  | with_reducible refine r_ret ?_
  | with_reducible refine r_retN ?_
  | with_reducible refine r_drop ?_
  | with_reducible refine r_next ?_
  | with_reducible refine r_brk ?_
  | with_reducible refine r_cons ?_
  | with_reducible refine r_nil ?_
  | with_reducible refine r_cb ?_
  | with_reducible refine r_ckw ?_
  | with_reducible refine r_test ?_
  | with_reducible refine r_B ?_
  | with_reducible refine r_blN ?_
  | with_reducible refine r_bl ?_
  | with_reducible refine r_ifS ?_
  | with_reducible refine r_if ?_
  | with_reducible refine r_not ?_
  | with_reducible refine r_and ?_
  | with_reducible refine r_or ?_
  | with_reducible refine r_andV ?_
  | with_reducible refine r_andB ?_
  | with_reducible refine r_notV ?_
  | with_reducible refine r_notB ?_
  | with_reducible refine r_call ?_
  | with_reducible refine r_make ?_
  | with_reducible refine r_meth ?_
  | with_reducible refine r_fld ?_
  | with_reducible refine r_tup ?_
  | with_reducible refine r_lst ?_
  | with_reducible refine r_sub ?_
  | with_reducible refine r_sl ?_
  | with_reducible refine r_nop ?_
  | with_reducible refine r_part ?_
  | with_reducible refine r_pti ?_
  | with_reducible refine r_bm ?_
  | with_reducible refine r_m1 ?_
  | with_reducible refine r_m1s ?_
  | with_reducible refine r_dget ?_
  | with_reducible refine r_eq ?_
  | with_reducible refine r_ne ?_
  | with_reducible refine r_eqS ?_
  | with_reducible refine r_neS ?_
  | with_reducible refine r_for ?_
  | with_reducible refine r_lc ?_
  | with_reducible refine r_yes ?_
  | with_reducible refine r_iStr ?_
  | with_reducible refine r_iList ?_
  | with_reducible refine r_iTup ?_
  | with_reducible refine r_iSq ?_
  | with_reducible refine r_iRng ?_
  | with_reducible refine r_iEnumQ ?_
  | with_reducible refine r_iEnumS ?_
  | with_reducible refine r_iEnum ?_
  | with_reducible refine r_iZip ?_
  | with_reducible refine r_tr ?_
  | with_reducible refine r_iSqK ?_
  | with_reducible refine r_fldS ?_
  | with_reducible refine r_dput ?_
  | with_reducible refine r_din ?_
  | with_reducible refine r_gcons ?_
  | with_reducible refine r_gnil ?_
  | with_reducible refine r_gtup upd_same rfl ?_
  | with_reducible refine r_chain ?_
  | with_reducible refine iteT ?_
  | with_reducible refine iteF ?_)
local macro_rules | `(tactic| walk_at "wp") => `(tactic| dsimp only [wipe, List.map_cons, List.map_nil, List.set_cons_succ, List.set_cons_zero])
local macro_rules | `(tactic| walk_at "rd") => `(tactic| repeat (walk_at "r1"))
local macro_rules | `(tactic| walk_at "rd0") => `(tactic| (simp only [L2.start, List.map_cons, List.map_nil, List.length_cons, List.length_nil, Nat.reduceAdd, Nat.reduceSub, List.replicate_succ, List.replicate_zero, List.nil_append, List.cons_append]; repeat (walk_at "r1")))
local macro_rules | `(tactic| walk_at "wp") => `(tactic| dsimp only [wipe, List.map_cons, List.map_nil, List.set_cons_succ, List.set_cons_zero])
/-! ### the drawn networks -/
theorem cut_take (xs : List V) (a : Nat) : cutV xs none (some ((a : Nat) : Int)) = xs.take a := by
  unfold cutV
  rw [HT.sIx_nat, HT.sIx_none, Nat.sub_zero, List.drop_zero]
  by_cases h : a ≤ xs.length
  · rw [Nat.min_eq_left h]
  · rw [Nat.min_eq_right (by omega), List.take_of_length_le (Nat.le_refl _), List.take_of_length_le (by omega)]
theorem cut_drop (xs : List V) (a : Nat) : cutV xs (some ((a : Nat) : Int)) none = xs.drop a := by
  unfold cutV
  rw [HT.sIx_nat, HT.sIx_none]
  by_cases h : a ≤ xs.length
  · rw [Nat.min_eq_left h]
    exact List.take_of_length_le (by rw [List.length_drop]; exact Nat.le_refl _)
  · rw [Nat.min_eq_right (by omega), Nat.sub_self, List.take_zero, List.drop_eq_nil_of_le (by omega)]
theorem lk_cat (a b : Nat) : (⟨#[65 + a]⟩ : Str) ++ (⟨#[65 + b]⟩ : Str) = lk (a, b) := rfl
theorem isPool_dK (kvs : List (Key × V)) : isPool (.dK kvs) = false := rfl
def linkOK (n : Nat) (l : Nat × Nat) : Prop := l.1 < n ∧ l.2 < n ∧ l.1 ≠ l.2
def spDrawn : Sp := fun vs H Q _ => ∃ (p q : Addr) (cs : List Int) (n k : Nat), vs = [.ref p, .int (n : Nat), .int (k : Nat)] ∧ Pool p q cs H ∧ 1 ≤ n ∧ n ≤ 4 ∧ k ≤ 10 ∧
  ∀ d N H', H d = none → NetAt H' d N → NetOK N → N.links.length ≤ k → Kept H H' → Pool p q cs H' → Q (.ref d) H'
/-- new links: the dict changes -/
theorem NetX.put {H : Hp} {d : Addr} {N : Net} {ra la lb : Addr} {rs : List (Addr × List Nat)} {ls : List (Nat × Nat)} (h : NetX H d N ra la rs) (hb : H lb = some (.lst (ls.map fun l => .str (lk l)))) :
    NetX (upd H d (.dK (putK (kvs3 N.v ra la) (.inr (Str.ofString "links")) (.ref lb)))) d ⟨N.v, N.rows, ls⟩ ra lb rs := by
  rw [kvs3_put]
  exact ⟨upd_same, by rw [upd_ne (ne_of h.nodes h.dict (by intro q; cases q))]; exact h.nodes, h.eq, fun r hr => by rw [upd_ne (ne_of (h.cells r hr) h.dict (by intro q; cases q))]; exact h.cells r hr, by rw [upd_ne (ne_of hb h.dict (by intro q; cases q))]; exact hb⟩
theorem NetX.dput {H : Hp} {d : Addr} {N : Net} {ra la lb : Addr} {rs : List (Addr × List Nat)} (h : NetX H d N ra la rs) : DPut H d (.str (Str.ofString "links")) (.ref lb) (upd H d (.dK (putK (kvs3 N.v ra la) (.inr (Str.ofString "links")) (.ref lb)))) :=
  DPut.k (k := .inr (Str.ofString "links")) h.dict (by show 3 < sizeLine; decide)
section
variable {P : Program} {w : World} {K : PySem.W.Frag} {mg : Str → Option Value} {base : Heap}
theorem c_drawn (W : TW K mg) : Cal P w K mg base 7 "_law_drawn" P__law_drawn spDrawn := by
  have c__law_take := c_take (P := P) (w := w) (base := base) W
  have c__law_some_messages := c_some (P := P) (w := w) (base := base) W
  obtain ⟨fd, F⟩ := W.f__law_drawn
  refine ⟨_, fd, W.g__law_drawn, F.kp, F.bindsN (fun _ _ _ _ _ _ us hl => match us, hl with | [_, _, _], _ => rfl), okN F sc__law_drawn (fun vs H Q E h => ?_) (fun cdv A outer s H vs Q E hr h => ?_)⟩
  · obtain ⟨p, q, cs, n, m, rfl, _⟩ := h
    rfl
  · have hu := hu_of hr
    obtain ⟨p, q, cs, n, most, rfl, hp, hn1, hn4, hk, k⟩ := h
    have e16 : sizeLine = 16777216 := sizeLine_eq
    refine ⟨_, (pss_cons (ps_set (i := 3) sc__law_drawn.nd rfl (Or.inr rfl) (pe_cal c__law_take (hr.mono (by decide)) (pa_cons (pv 0) (pa_cons pe_int pa_nil))))
  (pss_cons (ps_setLc (i := 4) (own := [("_law_k", 7)]) (by rfl) sc__law_drawn.nd rfl rfl (sw_true rfl rfl rfl (by decide +kernel)) (pi_range1 rfl W.z_range (pa_cons (pe_op op_add pe_int (pe_cal c__law_take (hr.mono (by decide)) (pa_cons (pv 0) (pa_cons (pv 1) pa_nil)))) pa_nil)) (blkOk_by (own := [("_law_k", 7)]) (by first | decide +kernel | kernel_rfl)) (fun _ _ _ _ _ => (pg_name (i := 7) sc__law_drawn.nd rfl (Or.inl rfl))) (fun _ _ _ _ _ => pts_nil) (fun _ _ _ _ _ => (pe_cal c__law_some_messages (hr.mono (by decide)) (pa_cons (pv 0) (pa_cons (pv 3) (pa_cons (pe_ix (ixT K) (pe_tup (pa_cons pe_int (pa_cons pe_int (pa_cons pe_int pa_nil)))) (pe_cal c__law_take (hr.mono (by decide)) (pa_cons (pv 0) (pa_cons pe_int pa_nil))) (fun _ _ => rfl)) pa_nil))))))
  (pss_cons (ps_set (i := 5) sc__law_drawn.nd rfl (Or.inl rfl) (pe_slice sl_str pe_str po_none (po_some (pe_callB (lenK K) rfl W.z_len PySem.boot_len (pa_cons (pv 4) pa_nil)))))
  (pss_cons (ps_set (i := 6) sc__law_drawn.nd rfl (Or.inl rfl) (pe_lst pa_nil))
  (pss_cons (ps_for PassesOwn.never rfl (pi_range1 rfl W.z_range (pa_cons (pe_cal c__law_take (hr.mono (by decide)) (pa_cons (pv 0) (pa_cons (pe_op op_add (pv 2) pe_int) pa_nil))) pa_nil)) (pg_name (i := 7) sc__law_drawn.nd rfl (Or.inl rfl))
   (pss_one (ps_if (pt_cmpR op_gt (pe_callB (lenK K) rfl W.z_len PySem.boot_len (pa_cons (pv 4) pa_nil)) pe_int (nomark _))
   (pss_cons (ps_set (i := 8) sc__law_drawn.nd rfl (Or.inl rfl) (pe_cal c__law_take (hr.mono (by decide)) (pa_cons (pv 0) (pa_cons (pe_callB (lenK K) rfl W.z_len PySem.boot_len (pa_cons (pv 4) pa_nil)) pa_nil))))
  (pss_cons (ps_set (i := 9) sc__law_drawn.nd rfl (Or.inl rfl) (pe_op op_mod (pe_op op_add (pe_op op_add (pv 8) pe_int) (pe_cal c__law_take (hr.mono (by decide)) (pa_cons (pv 0) (pa_cons (pe_op op_sub (pe_callB (lenK K) rfl W.z_len PySem.boot_len (pa_cons (pv 4) pa_nil)) pe_int) pa_nil)))) (pe_callB (lenK K) rfl W.z_len PySem.boot_len (pa_cons (pv 4) pa_nil))))
  (pss_one (ps_expr (pe_bmK K PySem.F.plainAttrs_list PySem.F.slot_list_append PySem.F.type_list_append mt_append (pv 6) (pa_cons (pe_op op_add_str (pe_ix ix_str (pv 5) (pv 8) (fun _ _ => rfl)) (pe_ix ix_str (pv 5) (pv 9) (fun _ _ => rfl))) pa_nil))))))
   pss_nil)))
  (pss_one (ps_ret (pe_disp (pps_cons pe_str (pv 3) (pps_cons pe_str (pv 4) (pps_cons pe_str (pv 6) pps_nil))) (by rfl) (by rfl) (fun z => by cases z) (by decide))))))))), ?_⟩
    walk_at "rd0"
    refine ⟨p, q, cs, _, rfl, hp, by decide, by decide, fun v0 H1 v00 v05 s1 p1 => ?_⟩
    obtain ⟨v, rfl⟩ : ∃ v : Nat, v0 = ((v : Nat) : Int) := ⟨v0.toNat, by omega⟩
    walk_at "rd"
    refine ⟨p, q, cs, _, rfl, p1, by omega, by omega, fun d2 H2 d20 d2n s2 p2 => ?_⟩
    obtain ⟨r, rfl⟩ : ∃ v : Nat, d2 = ((v : Nat) : Int) := ⟨d2.toNat, by omega⟩
    walk_at "rd"
    refine ⟨_, rfl, by omega, by omega, fun D hD => lc_draw (walk_range (lo := 0) (n := (1 + ((r : Nat) : Int)).toNat)) ySame_fn (by omega) hD p2 (fun i acc H => ∃ rs : List (Addr × List Nat), acc = (rs.map fun r => .ref r.1) ∧ rs.length = i ∧ ∀ r ∈ rs, r.1 ≠ D ∧ H r.1 = some (.lst (r.2.map tv)) ∧ r.2.length ≤ 4 ∧ ∀ m ∈ r.2, 1 ≤ m ∧ m < 2 ^ v)
      (fun _ => ⟨[], rfl, rfl, (fun m h => nomatch h)⟩) (fun i acc H H' ⟨rs, e, l, h⟩ kx => ⟨rs, e, l, fun r hr => let ⟨a, b, c⟩ := h r hr; ⟨a, kx _ _ a (isPool_strs _ _) b, c⟩⟩) (fun i acc _ ⟨rs, e, _⟩ => by rw [e]; exact isPool_refs _ _) (fun _ _ => trivial) ?_ fun H3 acc s3 p3 hl ha e3 => ?_⟩
    · rintro i x Hc H' R E hi s hpc ⟨rfl, rfl⟩ hR hE
      walk_at "wp"
      walk_at "rd"
      refine ⟨rfl, ?_⟩
      walk_at "rd"
      refine ⟨(by show 3 ≤ sizeLine; decide), fun T hT => ?_⟩
      walk_at "rd"
      refine ⟨p, q, cs, _, rfl, hpc.new hT, by decide, by decide, fun d3 H3 d30 d3n s3 p3 => ?_⟩
      have eT := s3.get (o := .tup [.int 1, .int 2, .int 4]) upd_same
      have key : ∀ most : Nat, most < 5 → spSome [.ref p, .int (v : Nat), .int (most : Nat)] H3 R E0 := fun most hm => by
        refine ⟨p, q, cs, v, most, rfl, p3, by omega, hm, fun a ms H4 hms hml han e4 s4 p4 => ?_⟩
        have sA : Kept H' H4 := (Same.kept (same_new hT)).trans (s3.trans s4)
        refine hR _ _ sA p4 fun acc eD ⟨rs, e, l, h⟩ => ?_
        have hDa : a ≠ D := by
          rintro rfl
          have := ((Same.kept (same_new hT)).trans s3).dom _ han
          rw [eD] at this; cases this
        refine ⟨rs ++ [(a, ms)], by rw [e, List.map_append]; rfl, by rw [List.length_append, l]; rfl, fun r hr => ?_⟩
        rcases List.mem_append.mp hr with h1 | h1
        · obtain ⟨a1, a2, a3⟩ := h r h1
          exact ⟨a1, sA.get a2 (isPool_strs _ _), a3⟩
        · cases List.mem_singleton.mp h1
          exact ⟨hDa, e4, by show ms.length ≤ 4; omega, hms⟩
      have c : d3 = 0 ∨ d3 = 1 ∨ d3 = 2 := by omega
      rcases c with rfl | rfl | rfl
      · refine r_ixT eT 0 rfl rfl ?_
        walk_at "rd"
        exact key 1 (by decide)
      · refine r_ixT eT 1 rfl rfl ?_
        walk_at "rd"
        exact key 2 (by decide)
      · refine r_ixT eT 2 rfl rfl ?_
        walk_at "rd"
        exact key 4 (by decide)
    · obtain ⟨rs, rfl, hrl, hrs⟩ := ha
      have hrn : rs.length = 1 + r := by omega
      have hr4 : rs.length ≤ 4 := by omega
      have s03 := (s1.trans s2).trans s3
      walk_at "rd"
      refine ⟨_, _, rfl, .inl ⟨_, SqL.of e3, by rw [List.length_map]⟩, ?_⟩
      refine ⟨_, rfl, ?_⟩
      walk_at "rd"
      refine ⟨_, rfl, (by decide), ?_⟩
      have ec : cutS (Str.ofString "ABCDEF") none (some ((rs.length : Nat) : Int)) = nset (2 ^ rs.length - 1) := n_cut rs.length (by omega)
      rw [ec]
      walk_at "rd"
      refine ⟨Nat.zero_le _, fun f hf => ?_⟩
      have s4 : Same H3 (upd H3 f (.lst [])) := same_new hf
      have e4 : upd H3 f (.lst []) f = some (.lst []) := upd_same
      have p4 : Pool p q cs (upd H3 f (.lst [])) := p3.new hf
      generalize upd H3 f (.lst []) = H4 at s4 e4 p4 ⊢
      walk_at "rd"
      refine ⟨p, q, cs, _, rfl, p4, by omega, by omega, fun d5 H5 d50 d5n s5 p5 => ?_⟩
      walk_at "rd"
      refine ⟨_, rfl, by omega, by omega, for_w (walk_range (lo := 0) (n := d5.toNat)) (fun i σ H' => Kept H3 H' ∧ Pool p q cs H' ∧ (∃ ls : List (Nat × Nat), H' f = some (.lst (ls.map fun l => .str (lk l))) ∧ ls.length ≤ i ∧ ∀ l ∈ ls, linkOK rs.length l) ∧ ∃ v1 v2 v3, σ = [some (.ref p), some (.int (n : Nat)), some (.int (most : Nat)), some (.int (v : Nat)), some (.ref D), some (sv (2 ^ rs.length - 1)), some (.ref f), v1, v2, v3])
        (by exact ⟨(Same.kept s4).trans s5, p5, ⟨[], s5.get e4, Nat.le_refl _, (fun l h => nomatch h)⟩, _, none, none, rfl⟩) (fun _ _ _ _ _ => trivial) ?_ ?_⟩
      · rintro i y σ H6 H7 hi ⟨s6, p6, ⟨ls, e6, hll, hlo⟩, v1, v2, v3, rfl⟩ ⟨rfl, rfl⟩
        have eD := s6.get e3 (isPool_refs _ _)
        walk_at "rd"
        refine ⟨_, _, rfl, .inl ⟨_, SqL.of eD, by rw [List.length_map]⟩, ?_⟩
        walk_at "rd"
        refine iteD (fun c => ?_) (fun c => ?_)
        · have hr2 : 2 ≤ rs.length := by omega
          walk_at "rd"
          refine ⟨_, _, rfl, .inl ⟨_, SqL.of eD, by rw [List.length_map]⟩, ?_⟩
          walk_at "rd"
          refine ⟨p, q, cs, _, rfl, p6, by omega, by omega, fun d7 H7 d70 d7n s7 p7 => ?_⟩
          obtain ⟨x, rfl⟩ : ∃ v : Nat, d7 = ((v : Nat) : Int) := ⟨d7.toNat, by omega⟩
          have eD7 := s7.get eD (isPool_refs _ _)
          walk_at "rd"
          refine ⟨_, _, rfl, .inl ⟨_, SqL.of eD7, by rw [List.length_map]⟩, ?_⟩
          walk_at "rd"
          refine ⟨p, q, cs, _, rfl, p7, by omega, by omega, fun d8 H8 d80 d8n s8 p8 => ?_⟩
          obtain ⟨y, rfl⟩ : ∃ v : Nat, d8 = ((v : Nat) : Int) := ⟨d8.toNat, by omega⟩
          have eD8 := s8.get eD7 (isPool_refs _ _)
          walk_at "rd"
          refine ⟨_, _, rfl, .inl ⟨_, SqL.of eD8, by rw [List.length_map]⟩, ?_⟩
          refine r_I (by omega) ?_
          have ez : (((x : Nat) : Int) + 1 + ((y : Nat) : Int)) % ((rs.length : Nat) : Int) = (((x + 1 + y) % rs.length : Nat) : Int) := by
            rw [show ((x : Nat) : Int) + 1 + ((y : Nat) : Int) = ((x + 1 + y : Nat) : Int) by omega, Int.natCast_emod]
          rw [ez]
          have hz : (x + 1 + y) % rs.length < rs.length := Nat.mod_lt _ (by omega)
          have hne : x ≠ (x + 1 + y) % rs.length := by
            by_cases c2 : x + 1 + y < rs.length
            · rw [Nat.mod_eq_of_lt c2]; omega
            · have : (x + 1 + y) % rs.length = x + 1 + y - rs.length := by
                rw [Nat.mod_eq_sub_mod (by omega), Nat.mod_eq_of_lt (by omega)]
              omega
          generalize (x + 1 + y) % rs.length = z at hz hne
          have e8 := (s7.trans s8).get e6 (isPool_strs lk ls)
          walk_at "rd"
          refine ⟨.inl ⟨rfl, _, SqL.of e8⟩, ?_⟩
          walk_at "rd"
          have hsz : (nset (2 ^ rs.length - 1)).length ≤ sizeLine := by
            have := ns_size rs.length (by omega)
            show (nset (2 ^ rs.length - 1)).cps.size ≤ _
            omega
          refine r_ixS (c := 65 + x) hsz x rfl (by rw [Array.getElem?_toList]; exact ns_at rs.length (by omega) x (by omega)) ?_
          walk_at "rd"
          refine r_ixS (c := 65 + z) hsz z rfl (by rw [Array.getElem?_toList]; exact ns_at rs.length (by omega) z (by omega)) ?_
          refine ⟨_, _, rfl, rfl, (by show 2 ≤ sizeLine; decide), ?_⟩
          rw [lk_cat]
          walk_at "rd"
          refine ⟨f, _, _, rfl, rfl, e8, by rw [List.length_map]; omega, ?_⟩
          walk_at "rd"
          refine ⟨((s6.trans s7).trans s8).mut hf, Pool.mut' p3 p8 hf, ⟨ls ++ [(x, z)], by rw [upd_same, List.map_append]; rfl, by rw [List.length_append]; show ls.length + 1 ≤ _; omega, fun l hl => ?_⟩, _, _, _, rfl⟩
          rcases List.mem_append.mp hl with h | h
          · exact hlo l h
          · cases List.mem_singleton.mp h
            exact ⟨by omega, hz, hne⟩
        · walk_at "rd"
          exact ⟨s6, p6, ⟨ls, e6, by omega, hlo⟩, _, _, _, rfl⟩
      · rintro σ H6 ⟨s6, p6, ⟨ls, e6, hll, hlo⟩, v1, v2, v3, rfl⟩
        walk_at "rd"
        refine fun d hd => ?_
        dsimp only [tPairs]
        walk_at "rd"
        refine ⟨upd_same, kvs3 v D f, rfl, (by show 3 ≤ 15; decide), ?_⟩
        rw [kvs3_new]
        have s7 : Kept H6 (upd (upd H6 d (.dK [])) d (.dK (kvs3 v D f))) := (Kept.refl _ |>.new hd).mut hd
        have e7 : upd (upd H6 d (.dK [])) d (.dK (kvs3 v D f)) d = some (.dK (kvs3 v D f)) := upd_same
        have p7 : Pool p q cs (upd (upd H6 d (.dK [])) d (.dK (kvs3 v D f))) := Pool.mut' p6 (p6.new hd) hd
        generalize upd (upd H6 d (.dK [])) d (.dK (kvs3 v D f)) = H7 at s7 e7 p7
        have s37 := s6.trans s7
        refine k d ⟨v, rs.map (·.2), ls⟩ H7 ((s03.trans s6).dom _ hd) ⟨D, f, rs, e7, s37.get e3 (isPool_refs _ _), rfl, fun r hr => s37.get (hrs r hr).2.1 (isPool_strs _ _), s7.get e6 (isPool_strs _ _)⟩ ?_ ?_ (s03.trans s37) p7
        · refine ⟨by show v < 5; omega, by show 1 ≤ (rs.map _).length; rw [List.length_map]; omega, by show (rs.map _).length ≤ 4; rw [List.length_map]; omega, fun r hr => ?_, fun r hr => ?_, by show ls.length ≤ 10; omega, fun l hl => ?_⟩
          · obtain ⟨t, ht, rfl⟩ := List.mem_map.mp hr
            exact (hrs t ht).2.2.1
          · obtain ⟨t, ht, rfl⟩ := List.mem_map.mp hr
            exact (hrs t ht).2.2.2
          · have := hlo l hl
            show _ < (rs.map _).length ∧ _ < (rs.map _).length ∧ _
            rw [List.length_map]
            exact this
        · show ls.length ≤ most
          omega
end
end Kn
set_option Elab.async false
set_option linter.all false
set_option maxRecDepth 100000
set_option maxHeartbeats 4000000
namespace Kn
open PySem PySem.Spec PyProof.Rows L2
local macro_rules | `(tactic| walk_at "hp") => `(tactic| first | assumption | exact upd_same | (rw [upd_ne (by assumption)]; walk_at "hp"))
local macro_rules | `(tactic| walk_at "r1") => `(tactic| first
  | with_reducible refine r_seq ?_
  | with_reducible refine r_asg ?_
  | (with_reducible refine r_name ?_; try dsimp only [List.set_cons_succ, List.set_cons_zero])
  | ((with_reducible refine' r_var (v := ?v1) ?h1 ?q1); (case h1 => exact rfl))
  | with_reducible refine r_c ?_
  | with_reducible refine r_op ?_
  | with_reducible refine r_un ?_
  | with_reducible refine r_I0 ?_
  | with_reducible refine r_U ?_
  | with_reducible refine r_ret ?_
  | with_reducible refine r_retN ?_
  | with_reducible refine r_drop ?_
  | with_reducible refine r_next ?_
  | with_reducible refine r_brk ?_
  | with_reducible refine r_cons ?_
  | with_reducible refine r_nil ?_
  | with_reducible refine r_cb ?_
  | with_reducible refine r_ckw ?_
  | with_reducible refine r_test ?_
  | with_reducible refine r_B ?_
  | with_reducible refine r_blN ?_
  | with_reducible refine r_bl ?_
  | with_reducible refine r_ifS ?_
  | with_reducible refine r_if ?_
  | with_reducible refine r_not ?_
  | with_reducible refine r_and ?_
  | with_reducible refine r_or ?_
  | with_reducible refine r_andV ?_
  | with_reducible refine r_andB ?_
  | with_reducible refine r_notV ?_
  | with_reducible refine r_notB ?_
  | with_reducible refine r_call ?_
  | with_reducible refine r_make ?_
  | with_reducible refine r_meth ?_
  | with_reducible refine r_fld ?_
  | with_reducible refine r_tup ?_
  | with_reducible refine r_lst ?_
  | with_reducible refine r_sub ?_
  | with_reducible refine r_sl ?_
  | with_reducible refine r_nop ?_
  | with_reducible refine r_part ?_
  | with_reducible refine r_pti ?_
  | with_reducible refine r_bm ?_
  | with_reducible refine r_m1 ?_
  | with_reducible refine r_m1s ?_
  | with_reducible refine r_dget ?_
  | with_reducible refine r_eq ?_
  | with_reducible refine r_ne ?_
  | with_reducible refine r_eqS ?_
  | with_reducible refine r_neS ?_
  | with_reducible refine r_for ?_
  | with_reducible refine r_lc ?_
  | with_reducible refine r_yes ?_
  | with_reducible refine r_iStr ?_
  | with_reducible refine r_iList ?_
  | with_reducible refine r_iTup ?_
  | with_reducible refine r_iSq ?_
  | with_reducible refine r_iRng ?_
  | with_reducible refine r_iEnumQ ?_
  | with_reducible refine r_iEnumS ?_
  | with_reducible refine r_iEnum ?_
  | with_reducible refine r_iZip ?_
  | with_reducible refine r_tr ?_
  | with_reducible refine r_iSqK ?_
  | with_reducible refine r_fldS ?_
  | with_reducible refine r_dput ?_
  | with_reducible refine r_din ?_
  | with_reducible refine r_gcons ?_
  | with_reducible refine r_gnil ?_
  | with_reducible refine r_gtup upd_same rfl ?_
  | with_reducible refine r_chain ?_
  | with_reducible refine iteT ?_
  | with_reducible refine iteF ?_)
local macro_rules | `(tactic| walk_at "wp") => `(tactic| dsimp only [wipe, List.map_cons, List.map_nil, List.set_cons_succ, List.set_cons_zero])
local macro_rules | `(tactic| walk_at "rd") => `(tactic| repeat (walk_at "r1"))
local macro_rules | `(tactic| walk_at "rd0") => `(tactic| (simp only [L2.start, List.map_cons, List.map_nil, List.length_cons, List.length_nil, Nat.reduceAdd, Nat.reduceSub, List.replicate_succ, List.replicate_zero, List.nil_append, List.cons_append]; repeat (walk_at "r1")))
local macro_rules | `(tactic| walk_at "wp") => `(tactic| dsimp only [wipe, List.map_cons, List.map_nil, List.set_cons_succ, List.set_cons_zero])
theorem ns_mem {S c : Nat} (h : c ∈ (nset S).cps.toList) : ∃ j, j < 6 ∧ S.testBit j = true ∧ c = 65 + j := by
  unfold nset at h
  obtain ⟨j, hj, e⟩ := List.mem_map.mp h
  obtain ⟨h1, h2⟩ := List.mem_filter.mp hj
  exact ⟨j, List.mem_range.mp h1, h2, e.symm⟩
theorem bit_of {S n j : Nat} (hS : S < 2 ^ n) (h : S.testBit j = true) : j < n := by
  by_cases c : j < n
  · exact c
  · have : S < 2 ^ j := Nat.lt_of_lt_of_le hS (Nat.pow_le_pow_right (by decide) (by omega))
    rw [Nat.testBit_lt_two_pow this] at h
    cases h
theorem ns_pos : ∀ S < 64, S ≠ 0 → 0 < (nset S).length := by decide +kernel
theorem nl_sign (c i : Nat) (h : c = 65 + i) : (⟨#[c]⟩ : Str) = nl i := by rw [h]; rfl
def spHandX (H : Hp) (T : Addr) (N : Net) : Prop := ∃ (b c : Addr) (sb sc : Bool) (ts : List (Addr × Bool × List Nat)), H T = some (.tup [.int (N.v : Nat), .ref b, .ref c]) ∧ H b = some (sq sb (ts.map fun t => .ref t.1)) ∧ ts.map (·.2.2) = N.rows ∧
  (∀ t ∈ ts, H t.1 = some (sq t.2.1 (t.2.2.map tv))) ∧ H c = some (sq sc (N.links.map fun l => .str (lk l)))
theorem isPool_sqR {α : Type} (b : Bool) (f : α → Addr) (cs : List α) : isPool (sq b (cs.map fun x => V.ref (f x))) = false := by
  cases b with
  | true => rfl
  | false => exact isPool_refs f cs
theorem isPool_sqS {α : Type} (b : Bool) (f : α → Str) (cs : List α) : isPool (sq b (cs.map fun x => V.str (f x))) = false := by
  cases b with
  | true => rfl
  | false => exact isPool_strs f cs
def spHanded : Sp := fun vs H Q _ => ∃ (p q d : Addr) (cs : List Int) (N : Net), vs = [.ref p, .ref d] ∧ Pool p q cs H ∧ NetAt H d N ∧ NetOK N ∧ ∀ T H', H T = none → spHandX H' T N → Kept H H' → Pool p q cs H' → Q (.ref T) H'
theorem NetAt.put {H : Hp} {d : Addr} {N : Net} {ra la lb : Addr} {rs : List (Addr × List Nat)} {ls : List (Nat × Nat)} (h : NetX H d N ra la rs) (hb : H lb = some (.lst (ls.map fun l => .str (lk l)))) :
    NetAt (upd H d (.dK (putK (kvs3 N.v ra la) (.inr (Str.ofString "links")) (.ref lb)))) d ⟨N.v, N.rows, ls⟩ := ⟨ra, lb, rs, h.put hb⟩
theorem NetOK.put {N : Net} (o : NetOK N) {ls : List (Nat × Nat)} (h1 : ls.length ≤ 10) (h2 : ∀ l ∈ ls, linkOK N.rows.length l) : NetOK ⟨N.v, N.rows, ls⟩ := ⟨o.v, o.r0, o.r4, o.rl, o.rm, h1, h2⟩
section
variable {P : Program} {w : World} {K : PySem.W.Frag} {mg : Str → Option Value} {base : Heap}
theorem c_filled (W : TW K mg) : Cal P w K mg base 8 "_law_filled" P__law_filled spDrawn := by
  have c__law_take := c_take (P := P) (w := w) (base := base) W
  have c__law_pick := c_pick (P := P) (w := w) (base := base) W
  have c__law_drawn := c_drawn (P := P) (w := w) (base := base) W
  have c__law_deficient := c_def (P := P) (w := w) (base := base) W
  obtain ⟨fd, F⟩ := W.f__law_filled
  refine ⟨_, fd, W.g__law_filled, F.kp, F.bindsN (fun _ _ _ _ _ _ us hl => match us, hl with | [_, _, _], _ => rfl), okN F sc__law_filled (fun vs H Q E h => ?_) (fun cdv A outer s H vs Q E hr h => ?_)⟩
  · obtain ⟨p, q, cs, n, m, rfl, _⟩ := h
    rfl
  · have hu := hu_of hr
    obtain ⟨p, q, cs, n, most, rfl, hp, hn1, hn4, hk, k⟩ := h
    have e16 : sizeLine = 16777216 := sizeLine_eq
    refine ⟨_, (pss_cons (ps_set (i := 3) sc__law_filled.nd rfl (Or.inl rfl) (pe_cal c__law_drawn (hr.mono (by decide)) (pa_cons (pv 0) (pa_cons (pv 1) (pa_cons (pe_op op_fdiv (pv 2) pe_int) pa_nil)))))
  (pss_cons (ps_for PassesOwn.never rfl (pi_range1 rfl W.z_range (pa_cons (pe_op op_sub (pv 2) (pe_callB (lenK K) rfl W.z_len PySem.boot_len (pa_cons (pe_dget hu (pv 3) pe_str (fun _ _ => rfl)) pa_nil))) pa_nil)) (pg_name (i := 4) sc__law_filled.nd rfl (Or.inl rfl))
   (pss_cons (ps_set (i := 5) sc__law_filled.nd rfl (Or.inr rfl) (pe_cal c__law_deficient (hr.mono (by decide)) (pa_cons (pv 3) pa_nil)))
  (pss_cons (ps_if (pt_cmpR op_eq (pv 5) pe_str (nomark _))
   (pss_one ps_break)
   pss_nil)
  (pss_cons (ps_set (i := 6) sc__law_filled.nd rfl (Or.inl rfl) (pe_slice sl_str pe_str po_none (po_some (pe_callB (lenK K) rfl W.z_len PySem.boot_len (pa_cons (pe_dget hu (pv 3) pe_str (fun _ _ => rfl)) pa_nil)))))
  (pss_cons (ps_setLc (i := 7) (own := [("_law_letter", 8)]) (by rfl) sc__law_filled.nd rfl rfl (sw_true rfl rfl rfl (by decide +kernel)) (pi_str (pv 6)) (blkOk_by (own := [("_law_letter", 8)]) (by first | decide +kernel | kernel_rfl)) (fun _ _ _ _ _ => (pg_name (i := 8) sc__law_filled.nd rfl (Or.inl rfl))) (fun _ _ _ _ _ => (pts_one (pt_cmpR op_notIn_sign (pv 8) (pv 5) rfl))) (fun _ _ _ _ _ => (pv 8)))
  (pss_cons (ps_if (pt_not (pt_truthK K (pv 7)))
   (pss_one ps_break)
   pss_nil)
  (pss_one (ps_dput hu (pv 3) pe_str (pe_op op_cat (pe_dget hu (pv 3) pe_str (fun _ _ => rfl)) (pe_lst (pa_cons (pe_op op_add_str (pe_cal c__law_pick (hr.mono (by decide)) (pa_cons (pv 0) (pa_cons (pv 7) pa_nil))) (pe_ix ix_str (pv 5) (pe_cal c__law_take (hr.mono (by decide)) (pa_cons (pv 0) (pa_cons (pe_callB (lenK K) rfl W.z_len PySem.boot_len (pa_cons (pv 5) pa_nil)) pa_nil))) (fun _ _ => rfl))) pa_nil))) rfl))))))))
  (pss_one (ps_ret (pv 3))))), ?_⟩
    walk_at "rd0"
    refine r_I ⟨by decide, by decide⟩ ?_
    walk_at "rd"
    have e3 : ((most : Nat) : Int) / 3 = ((most / 3 : Nat) : Int) := by omega
    rw [e3]
    refine ⟨p, q, cs, n, most / 3, rfl, hp, hn1, hn4, by omega, fun d N H1 hd hN ok hl s1 p1 => ?_⟩
    walk_at "rd"
    obtain ⟨ra, la, rs, hX⟩ := hN
    refine ⟨d, _, rfl, hX.gl, ?_⟩
    walk_at "rd"
    refine ⟨_, _, rfl, .inl ⟨_, SqL.of hX.links, by rw [List.length_map]⟩, ?_⟩
    walk_at "rd"
    refine ⟨_, rfl, by omega, by omega, for_w (walk_range (lo := 0) (n := (((most : Nat) : Int) - ((N.links.length : Nat) : Int)).toNat)) (fun i σ H' => Kept H H' ∧ Pool p q cs H' ∧ (∃ M, NetAt H' d M ∧ NetOK M ∧ M.links.length ≤ N.links.length + i) ∧ ∃ v1 v2 v3 v4, σ = [some (.ref p), some (.int (n : Nat)), some (.int (most : Nat)), some (.ref d), v1, v2, v3, v4, none])
      (by exact ⟨s1, p1, ⟨N, ⟨ra, la, rs, hX⟩, ok, Nat.le_refl _⟩, none, none, none, none, rfl⟩) (fun _ _ _ _ _ => trivial) ?_ ?_⟩
    · rintro i y σ H2 H3 hi ⟨s2, p2, ⟨M, hM, okM, hlM⟩, v1, v2, v3, v4, rfl⟩ ⟨rfl, rfl⟩
      walk_at "rd"
      refine ⟨d, M, rfl, hM, okM, fun S H3 s3 hS => ?_⟩
      have hM4 := okM.r4
      have h64 := lt64 (by omega) hS
      have sA := s2.trans (Same.kept s3)
      walk_at "rd"
      rw [ns_ne S h64]
      refine iteD (fun c => ?_) (fun c => ?_)
      · walk_at "rd"
        exact k d M _ hd (hM.same s3) okM (by omega) sA (p2.same s3)
      · obtain ⟨ra, la, rs, hX3⟩ := hM.same s3
        have p3 := p2.same s3
        walk_at "rd"
        refine ⟨d, _, rfl, hX3.gn, ?_⟩
        walk_at "rd"
        refine ⟨_, _, rfl, .inl ⟨_, SqL.of hX3.nodes, by rw [List.length_map]⟩, ?_⟩
        rw [hX3.len]
        refine ⟨_, rfl, ?_⟩
        walk_at "rd"
        refine ⟨_, rfl, (by decide), ?_⟩
        have ec : cutS (Str.ofString "ABCDEF") none (some ((M.rows.length : Nat) : Int)) = nset (2 ^ M.rows.length - 1) := n_cut _ (by omega)
        rw [ec]
        walk_at "rd"
        refine ⟨_, rfl, fun D hD => lc_pure walk_str ySame_str (by rw [ns_size _ (by omega)]; omega) hD (fun i => !S.testBit i) (fun i => .str (nl i)) (fun _ _ => trivial) ?_ fun H4 s4 e4 => ?_⟩
        · rintro j z Hc H' R E hj s ⟨rfl, c, hc, rfl⟩ hR hE
          rw [ns_size _ (by omega)] at hj
          rw [ns_at _ (by omega) j hj] at hc
          cases hc
          walk_at "wp"
          walk_at "rd"
          refine ⟨rfl, ?_⟩
          walk_at "rd"
          refine ⟨_, _, rfl, rfl, ?_⟩
          rw [nl_in j (by omega) S h64]
          cases c2 : S.testBit j with
          | true =>
            walk_at "rd"
            refine iteF ?_
            exact hE (by rw [c2]; rfl) _ (Same.refl _)
          | false =>
            walk_at "rd"
            refine iteT ?_
            walk_at "rd"
            exact hR (by rw [c2]; rfl) _ (Same.refl _)
        · rw [ns_size _ (by omega)] at e4
          have hX4 := hX3.same s4
          have p4 := p3.same s4
          walk_at "rd"
          refine ⟨_, .inl ⟨_, SqL.of e4, rfl⟩, ?_⟩
          have hlo : ((List.range M.rows.length).filter fun i => !S.testBit i).length ≤ 4 := by
            have := List.length_filter_le (fun i => !S.testBit i) (List.range M.rows.length)
            rw [List.length_range] at this
            omega
          cases c4 : (((List.range M.rows.length).filter fun i => !S.testBit i).map fun i => V.str (nl i)).isEmpty with
          | true =>
            walk_at "rd"
            refine iteT ?_
            walk_at "rd"
            exact k d M _ hd ⟨ra, la, rs, hX4⟩ okM (by omega) (sA.trans (Same.kept s4)) p4
          | false =>
            walk_at "rd"
            refine iteF ?_
            walk_at "rd"
            refine ⟨d, _, rfl, hX4.gl, ?_⟩
            walk_at "rd"
            refine ⟨p, q, D, cs, _, rfl, p4, e4, isPool_strs nl _, ?_, ?_, fun i2 x H5 hx s5 p5 => ?_⟩
            · rw [List.isEmpty_eq_false_iff_exists_mem] at c4
              obtain ⟨x, hx⟩ := c4
              exact List.length_pos_of_mem hx
            · rw [List.length_map]
              omega
            · obtain ⟨j1, hj1, rfl⟩ := List.mem_map.mp (List.mem_of_getElem? hx)
              obtain ⟨hj1a, hj1b⟩ := List.mem_filter.mp hj1
              have hj1a := List.mem_range.mp hj1a
              have hX5 := hX4.kept s5
              have hne : S ≠ 0 := c
              have hpos := ns_pos S h64 hne
              have hle := ns_len S h64
              walk_at "rd"
              refine ⟨_, _, rfl, ⟨by omega, rfl⟩, ?_⟩
              walk_at "rd"
              refine ⟨p, q, cs, _, rfl, p5, by omega, by omega, fun d6 H6 d60 d6n s6 p6 => ?_⟩
              have hX6 := hX5.kept s6
              have hlt : d6.toNat < (nset S).cps.toList.length := by
                rw [Array.length_toList]
                show d6.toNat < (nset S).length
                omega
              obtain ⟨j2, hj2, hb2, hc2⟩ := ns_mem (List.getElem_mem hlt)
              have hj2n := bit_of hS hb2
              refine r_ixS (c := 65 + j2) (by omega) d6.toNat (by omega) (by rw [List.getElem?_eq_getElem hlt, hc2]) ?_
              refine ⟨_, _, rfl, rfl, (by show 2 ≤ sizeLine; decide), ?_⟩
              rw [show nl j1 ++ (⟨#[65 + j2]⟩ : Str) = lk (j1, j2) from rfl]
              walk_at "rd"
              refine ⟨(by show 1 ≤ sizeLine; decide), fun f hf => ?_⟩
              have hX7 := hX6.same (same_new (o := .lst [.str (lk (j1, j2))]) hf)
              have hl10 := okM.l10
              refine ⟨la, f, _, _, rfl, rfl, hX7.links, upd_same, by rw [List.length_map]; show _ + 1 ≤ _; omega, fun g hg => ?_⟩
              have hX8 := hX7.same (same_new (o := .lst (M.links.map (fun l => V.str (lk l)) ++ [.str (lk (j1, j2))])) hg)
              walk_at "rd"
              have eg : upd (upd H6 f (.lst [.str (lk (j1, j2))])) g (.lst (M.links.map (fun l => V.str (lk l)) ++ [.str (lk (j1, j2))])) g = some (.lst ((M.links ++ [(j1, j2)]).map fun l => V.str (lk l))) := by
                rw [upd_same, List.map_append]; rfl
              have p8 : Pool p q cs (upd (upd H6 f (.lst [.str (lk (j1, j2))])) g (.lst (M.links.map (fun l => V.str (lk l)) ++ [.str (lk (j1, j2))]))) := (p6.new hf).new hg
              have s8 : Kept H6 (upd (upd H6 f (.lst [.str (lk (j1, j2))])) g (.lst (M.links.map (fun l => V.str (lk l)) ++ [.str (lk (j1, j2))]))) := (Kept.refl _ |>.new hf).new hg
              generalize upd (upd H6 f (.lst [.str (lk (j1, j2))])) g (.lst (M.links.map (fun l => V.str (lk l)) ++ [.str (lk (j1, j2))])) = H8 at hX8 eg p8 s8 ⊢
              refine ⟨d, _, rfl, hX8.dput, ?_⟩
              walk_at "rd"
              have s08 : Kept H H8 := (((sA.trans (Same.kept s4)).trans s5).trans s6).trans s8
              refine ⟨s08.mut hd, Pool.mut' hp p8 hd, ⟨_, NetAt.put hX8 eg, okM.put ?_ fun l hl => ?_, ?_⟩, _, _, _, _, rfl⟩
              · rw [List.length_append]
                show M.links.length + 1 ≤ 10
                omega
              · rcases List.mem_append.mp hl with h | h
                · exact okM.lo l h
                · cases List.mem_singleton.mp h
                  refine ⟨hj1a, hj2n, fun z => ?_⟩
                  have z : j1 = j2 := z
                  rw [z, hb2] at hj1b
                  cases hj1b
              · show (M.links ++ [(j1, j2)]).length ≤ _
                rw [List.length_append]
                show M.links.length + 1 ≤ _
                omega
    · rintro σ H2 ⟨s2, p2, ⟨M, hM, okM, hlM⟩, v1, v2, v3, v4, rfl⟩
      walk_at "rd"
      exact k d M _ hd hM okM (by omega) s2 p2
theorem c_network (W : TW K mg) : Cal P w K mg base 9 "_law_network" P__law_network spDrawn := by
  have c__law_take := c_take (P := P) (w := w) (base := base) W
  have c__law_drawn := c_drawn (P := P) (w := w) (base := base) W
  have c__law_filled := c_filled (P := P) (w := w) (base := base) W
  obtain ⟨fd, F⟩ := W.f__law_network
  refine ⟨_, fd, W.g__law_network, F.kp, F.bindsN (fun _ _ _ _ _ _ us hl => match us, hl with | [_, _, _], _ => rfl), okN F sc__law_network (fun vs H Q E h => ?_) (fun cdv A outer s H vs Q E hr h => ?_)⟩
  · obtain ⟨p, q, cs, n, m, rfl, _⟩ := h
    rfl
  · have hu := hu_of hr
    obtain ⟨p, q, cs, n, most, rfl, hp, hn1, hn4, hk, k⟩ := h
    have e16 : sizeLine = 16777216 := sizeLine_eq
    refine ⟨_, (pss_cons (ps_set (i := 3) sc__law_network.nd rfl (Or.inl rfl) (pe_cal c__law_take (hr.mono (by decide)) (pa_cons (pv 0) (pa_cons pe_int pa_nil))))
  (pss_cons (ps_if (pt_cmpR op_eq (pv 3) pe_int (nomark _))
   (pss_one (ps_ret (pe_cal c__law_drawn (hr.mono (by decide)) (pa_cons (pv 0) (pa_cons (pv 1) (pa_cons (pv 2) pa_nil))))))
   pss_nil)
  (pss_cons (ps_set (i := 4) sc__law_network.nd rfl (Or.inl rfl) (pe_cal c__law_filled (hr.mono (by decide)) (pa_cons (pv 0) (pa_cons (pv 1) (pa_cons (pv 2) pa_nil)))))
  (pss_cons (ps_if (PW.pt (pw_and (pt_cmpR op_eq (pv 3) pe_int (nomark _)) (pw_and1 (pt_truthK K (pe_dget hu (pv 4) pe_str (fun _ _ => rfl))))))
   (pss_cons (ps_set (i := 5) sc__law_network.nd rfl (Or.inl rfl) (pe_cal c__law_take (hr.mono (by decide)) (pa_cons (pv 0) (pa_cons (pe_callB (lenK K) rfl W.z_len PySem.boot_len (pa_cons (pe_dget hu (pv 4) pe_str (fun _ _ => rfl)) pa_nil)) pa_nil))))
  (pss_one (ps_dput hu (pv 4) pe_str (pe_op op_cat (pe_slice (slL K) (pe_dget hu (pv 4) pe_str (fun _ _ => rfl)) po_none (po_some (pv 5))) (pe_slice (slL K) (pe_dget hu (pv 4) pe_str (fun _ _ => rfl)) (po_some (pe_op op_add (pv 5) pe_int)) po_none)) rfl)))
   pss_nil)
  (pss_cons (ps_if (PW.pt (pw_and (pt_cmpR op_eq (pv 3) pe_int (nomark _)) (pw_and1 (pt_truthK K (pe_dget hu (pv 4) pe_str (fun _ _ => rfl))))))
   (pss_cons (ps_set (i := 5) sc__law_network.nd rfl (Or.inl rfl) (pe_cal c__law_take (hr.mono (by decide)) (pa_cons (pv 0) (pa_cons (pe_callB (lenK K) rfl W.z_len PySem.boot_len (pa_cons (pe_dget hu (pv 4) pe_str (fun _ _ => rfl)) pa_nil)) pa_nil))))
  (pss_cons (ps_set (i := 6) sc__law_network.nd rfl (Or.inl rfl) (pe_ix (ixL K) (pe_dget hu (pv 4) pe_str (fun _ _ => rfl)) (pv 5) (fun _ _ => rfl)))
  (pss_one (ps_dput hu (pv 4) pe_str (pe_op op_cat (pe_op op_cat (pe_slice (slL K) (pe_dget hu (pv 4) pe_str (fun _ _ => rfl)) po_none (po_some (pv 5))) (pe_lst (pa_cons (pe_op op_add_str (pe_ix ix_str (pv 6) pe_int (fun _ _ => rfl)) (pe_ix ix_str (pv 6) pe_int (fun _ _ => rfl))) pa_nil))) (pe_slice (slL K) (pe_dget hu (pv 4) pe_str (fun _ _ => rfl)) (po_some (pe_op op_add (pv 5) pe_int)) po_none)) rfl))))
   pss_nil)
  (pss_one (ps_ret (pv 4)))))))), ?_⟩
    walk_at "rd0"
    refine ⟨p, q, cs, _, rfl, hp, by decide, by decide, fun kd H1 d0 dn s1 p1 => ?_⟩
    walk_at "rd"
    refine iteD (fun c => ?_) (fun c => ?_)
    · walk_at "rd"
      exact ⟨p, q, cs, n, most, rfl, p1, hn1, hn4, hk, fun d N H2 hd hN ok hl s2 p2 => k d N H2 (s1.dom _ hd) hN ok hl (s1.trans s2) p2⟩
    · walk_at "rd"
      refine ⟨p, q, cs, n, most, rfl, p1, hn1, hn4, hk, fun d N H2 hd hN ok hl s2 p2 => ?_⟩
      obtain ⟨ra, la, rs, hX⟩ := hN
      have hd0 := s1.dom _ hd
      have s02 := s1.trans s2
      have h10 := ok.l10
      have hr4 := ok.r4
      walk_at "rd"
      refine iteD (fun c1 => ?_) (fun c1 => ?_)
      · walk_at "rd"
        refine ⟨d, _, rfl, hX.gl, ?_⟩
        refine ⟨_, .inl ⟨_, SqL.of hX.links, rfl⟩, ?_⟩
        cases c2 : (N.links.map fun l => V.str (lk l)).isEmpty with
        | true =>
          walk_at "rd"
          refine iteF ?_
          walk_at "rd"
          refine iteD (fun c3 => absurd c3 (by omega)) (fun c3 => ?_)
          walk_at "rd"
          exact k d N _ hd0 ⟨ra, la, rs, hX⟩ ok hl s02 p2
        | false =>
          have hpos : 0 < N.links.length := by
            rw [List.isEmpty_eq_false_iff_exists_mem] at c2
            obtain ⟨x, hx⟩ := c2
            have := List.length_pos_of_mem hx
            rwa [List.length_map] at this
          walk_at "rd"
          refine iteT ?_
          walk_at "rd"
          refine ⟨d, _, rfl, hX.gl, ?_⟩
          walk_at "rd"
          refine ⟨_, _, rfl, .inl ⟨_, SqL.of hX.links, by rw [List.length_map]⟩, ?_⟩
          walk_at "rd"
          refine ⟨p, q, cs, _, rfl, p2, by omega, by omega, fun a0 H3 a00 a0n s3 p3 => ?_⟩
          obtain ⟨a, rfl⟩ : ∃ v : Nat, a0 = ((v : Nat) : Int) := ⟨a0.toNat, by omega⟩
          have hX3 := hX.kept s3
          walk_at "rd"
          refine ⟨d, _, rfl, hX3.gl, ?_⟩
          walk_at "rd"
          refine ⟨_, rfl, ?_⟩
          refine ⟨la, _, rfl, SqL.of hX3.links, fun f hf => ?_⟩
          rw [cut_take, ← List.map_take]
          have hX4 := hX3.same (same_new (o := .lst ((N.links.take a).map fun l => V.str (lk l))) hf)
          have ef : upd H3 f (.lst ((N.links.take a).map fun l => V.str (lk l))) f = some (.lst ((N.links.take a).map fun l => V.str (lk l))) := upd_same
          have s4 : Same H3 (upd H3 f (.lst ((N.links.take a).map fun l => V.str (lk l)))) := same_new hf
          generalize upd H3 f (.lst ((N.links.take a).map fun l => V.str (lk l))) = H4 at hX4 ef s4 ⊢
          walk_at "rd"
          refine ⟨d, _, rfl, hX4.gl, ?_⟩
          walk_at "rd"
          refine ⟨_, rfl, ?_⟩
          walk_at "rd"
          refine ⟨la, _, rfl, SqL.of hX4.links, fun g hg => ?_⟩
          rw [show ((a : Nat) : Int) + 1 = ((a + 1 : Nat) : Int) from rfl, cut_drop, ← List.map_drop]
          have hX5 := hX4.same (same_new (o := .lst ((N.links.drop (a + 1)).map fun l => V.str (lk l))) hg)
          have eg : upd H4 g (.lst ((N.links.drop (a + 1)).map fun l => V.str (lk l))) g = some (.lst ((N.links.drop (a + 1)).map fun l => V.str (lk l))) := upd_same
          have s5 : Same H4 (upd H4 g (.lst ((N.links.drop (a + 1)).map fun l => V.str (lk l)))) := same_new hg
          generalize upd H4 g (.lst ((N.links.drop (a + 1)).map fun l => V.str (lk l))) = H5 at hX5 eg s5 ⊢
          have hlt : (N.links.take a).length + (N.links.drop (a + 1)).length ≤ N.links.length := by
            rw [List.length_take, List.length_drop]; omega
          refine ⟨f, g, _, _, rfl, rfl, s5 _ _ ef, eg, by rw [List.length_map, List.length_map]; omega, fun h hh => ?_⟩
          rw [← List.map_append]
          have hX6 := hX5.same (same_new (o := .lst ((N.links.take a ++ N.links.drop (a + 1)).map fun l => V.str (lk l))) hh)
          have eh : upd H5 h (.lst ((N.links.take a ++ N.links.drop (a + 1)).map fun l => V.str (lk l))) h = some (.lst ((N.links.take a ++ N.links.drop (a + 1)).map fun l => V.str (lk l))) := upd_same
          have s6 : Same H5 (upd H5 h (.lst ((N.links.take a ++ N.links.drop (a + 1)).map fun l => V.str (lk l)))) := same_new hh
          generalize upd H5 h (.lst ((N.links.take a ++ N.links.drop (a + 1)).map fun l => V.str (lk l))) = H6 at hX6 eh s6 ⊢
          have s36 : Same H3 H6 := (s4.trans s5).trans s6
          walk_at "rd"
          refine ⟨d, _, rfl, hX6.dput, ?_⟩
          have fN := NetAt.put hX6 eh
          have fO := ok.put (ls := N.links.take a ++ N.links.drop (a + 1)) (by rw [List.length_append]; omega) fun l hl => by
            rcases List.mem_append.mp hl with h | h
            · exact ok.lo l (List.mem_of_mem_take h)
            · exact ok.lo l (List.mem_of_mem_drop h)
          have fK : Kept H _ := ((s02.trans s3).trans (Same.kept s36)).mut (a := d) (o := .dK (putK (kvs3 N.v ra la) (.inr (Str.ofString "links")) (.ref h))) hd0
          have fP : Pool p q cs (upd H6 d (.dK (putK (kvs3 N.v ra la) (.inr (Str.ofString "links")) (.ref h)))) := Pool.mut' hp (p3.same s36) hd0
          walk_at "rd"
          refine iteD (fun c3 => absurd c3 (by omega)) (fun c3 => ?_)
          walk_at "rd"
          exact k d _ _ hd0 fN fO (by show (_ ++ _ : List (Nat × Nat)).length ≤ _; rw [List.length_append]; omega) fK fP
      · walk_at "rd"
        refine iteD (fun c3 => ?_) (fun c3 => ?_)
        · walk_at "rd"
          refine ⟨d, _, rfl, hX.gl, ?_⟩
          refine ⟨_, .inl ⟨_, SqL.of hX.links, rfl⟩, ?_⟩
          cases c2 : (N.links.map fun l => V.str (lk l)).isEmpty with
          | true =>
            walk_at "rd"
            refine iteF ?_
            walk_at "rd"
            exact k d N _ hd0 ⟨ra, la, rs, hX⟩ ok hl s02 p2
          | false =>
            have hpos : 0 < N.links.length := by
              rw [List.isEmpty_eq_false_iff_exists_mem] at c2
              obtain ⟨x, hx⟩ := c2
              have := List.length_pos_of_mem hx
              rwa [List.length_map] at this
            walk_at "rd"
            refine iteT ?_
            walk_at "rd"
            refine ⟨d, _, rfl, hX.gl, ?_⟩
            walk_at "rd"
            refine ⟨_, _, rfl, .inl ⟨_, SqL.of hX.links, by rw [List.length_map]⟩, ?_⟩
            walk_at "rd"
            refine ⟨p, q, cs, _, rfl, p2, by omega, by omega, fun a0 H3 a00 a0n s3 p3 => ?_⟩
            obtain ⟨a, rfl⟩ : ∃ v : Nat, a0 = ((v : Nat) : Int) := ⟨a0.toNat, by omega⟩
            have hX3 := hX.kept s3
            have hal : a < N.links.length := by omega
            walk_at "rd"
            refine ⟨d, _, rfl, hX3.gl, ?_⟩
            walk_at "rd"
            refine r_ixL hX3.links a rfl (hX3.link hal) ?_
            have hlk := ok.link hal
            generalize N.links.getD a (0, 0) = lnk at hlk
            walk_at "rd"
            refine ⟨d, _, rfl, hX3.gl, ?_⟩
            walk_at "rd"
            refine ⟨_, rfl, ?_⟩
            refine ⟨la, _, rfl, SqL.of hX3.links, fun f hf => ?_⟩
            rw [cut_take, ← List.map_take]
            have hX4 := hX3.same (same_new (o := .lst ((N.links.take a).map fun l => V.str (lk l))) hf)
            have ef : upd H3 f (.lst ((N.links.take a).map fun l => V.str (lk l))) f = some (.lst ((N.links.take a).map fun l => V.str (lk l))) := upd_same
            have s4 : Same H3 (upd H3 f (.lst ((N.links.take a).map fun l => V.str (lk l)))) := same_new hf
            generalize upd H3 f (.lst ((N.links.take a).map fun l => V.str (lk l))) = H4 at hX4 ef s4 ⊢
            walk_at "rd"
            refine r_ixS (lk_len _) 1 rfl (lk_1 _) ?_
            walk_at "rd"
            refine r_ixS (lk_len _) 0 rfl (lk_0 _) ?_
            refine ⟨_, _, rfl, rfl, (by show 2 ≤ sizeLine; decide), ?_⟩
            rw [lk_cat]
            walk_at "rd"
            refine ⟨(by show 1 ≤ sizeLine; decide), fun u hu2 => ?_⟩
            have hX4b := hX4.same (same_new (o := .lst [V.str (lk (lnk.2, lnk.1))]) hu2)
            have eu : upd H4 u (.lst [V.str (lk (lnk.2, lnk.1))]) u = some (.lst ([(lnk.2, lnk.1)].map fun l => V.str (lk l))) := upd_same
            have s4b : Same H4 (upd H4 u (.lst [V.str (lk (lnk.2, lnk.1))])) := same_new hu2
            generalize upd H4 u (.lst [V.str (lk (lnk.2, lnk.1))]) = H4b at hX4b eu s4b ⊢
            have hlA : (N.links.take a ++ [(lnk.2, lnk.1)]).length ≤ 11 := by
              rw [List.length_append, List.length_take]
              show _ + 1 ≤ _
              omega
            refine ⟨f, u, _, _, rfl, rfl, s4b _ _ ef, eu, by rw [List.length_map, List.length_map, List.length_take]; show _ + 1 ≤ _; omega, fun u2 hu3 => ?_⟩
            rw [← List.map_append]
            have hX4c := hX4b.same (same_new (o := .lst ((N.links.take a ++ [(lnk.2, lnk.1)]).map fun l => V.str (lk l))) hu3)
            have eu2 : upd H4b u2 (.lst ((N.links.take a ++ [(lnk.2, lnk.1)]).map fun l => V.str (lk l))) u2 = some (.lst ((N.links.take a ++ [(lnk.2, lnk.1)]).map fun l => V.str (lk l))) := upd_same
            have s4c : Same H4b (upd H4b u2 (.lst ((N.links.take a ++ [(lnk.2, lnk.1)]).map fun l => V.str (lk l)))) := same_new hu3
            generalize upd H4b u2 (.lst ((N.links.take a ++ [(lnk.2, lnk.1)]).map fun l => V.str (lk l))) = H4c at hX4c eu2 s4c ⊢
            walk_at "rd"
            refine ⟨d, _, rfl, hX4c.gl, ?_⟩
            walk_at "rd"
            refine ⟨_, rfl, ?_⟩
            walk_at "rd"
            refine ⟨la, _, rfl, SqL.of hX4c.links, fun g hg => ?_⟩
            rw [show ((a : Nat) : Int) + 1 = ((a + 1 : Nat) : Int) from rfl, cut_drop, ← List.map_drop]
            have hX5 := hX4c.same (same_new (o := .lst ((N.links.drop (a + 1)).map fun l => V.str (lk l))) hg)
            have eg : upd H4c g (.lst ((N.links.drop (a + 1)).map fun l => V.str (lk l))) g = some (.lst ((N.links.drop (a + 1)).map fun l => V.str (lk l))) := upd_same
            have s5 : Same H4c (upd H4c g (.lst ((N.links.drop (a + 1)).map fun l => V.str (lk l)))) := same_new hg
            generalize upd H4c g (.lst ((N.links.drop (a + 1)).map fun l => V.str (lk l))) = H5 at hX5 eg s5 ⊢
            have hlt : (N.links.take a ++ [(lnk.2, lnk.1)]).length + (N.links.drop (a + 1)).length ≤ N.links.length := by
              rw [List.length_append, List.length_take, List.length_drop]
              show _ + 1 + _ ≤ _
              omega
            refine ⟨u2, g, _, _, rfl, rfl, s5 _ _ eu2, eg, by rw [List.length_map, List.length_map]; omega, fun h hh => ?_⟩
            rw [← List.map_append]
            have hX6 := hX5.same (same_new (o := .lst ((N.links.take a ++ [(lnk.2, lnk.1)] ++ N.links.drop (a + 1)).map fun l => V.str (lk l))) hh)
            have eh : upd H5 h (.lst ((N.links.take a ++ [(lnk.2, lnk.1)] ++ N.links.drop (a + 1)).map fun l => V.str (lk l))) h = some (.lst ((N.links.take a ++ [(lnk.2, lnk.1)] ++ N.links.drop (a + 1)).map fun l => V.str (lk l))) := upd_same
            have s6 : Same H5 (upd H5 h (.lst ((N.links.take a ++ [(lnk.2, lnk.1)] ++ N.links.drop (a + 1)).map fun l => V.str (lk l)))) := same_new hh
            generalize upd H5 h (.lst ((N.links.take a ++ [(lnk.2, lnk.1)] ++ N.links.drop (a + 1)).map fun l => V.str (lk l))) = H6 at hX6 eh s6 ⊢
            have s36 : Same H3 H6 := (((s4.trans s4b).trans s4c).trans s5).trans s6
            walk_at "rd"
            refine ⟨d, _, rfl, hX6.dput, ?_⟩
            have fN := NetAt.put hX6 eh
            have fO := ok.put (ls := N.links.take a ++ [(lnk.2, lnk.1)] ++ N.links.drop (a + 1)) (by rw [List.length_append]; omega) fun l hl => by
              rcases List.mem_append.mp hl with h | h
              · rcases List.mem_append.mp h with h | h
                · exact ok.lo l (List.mem_of_mem_take h)
                · cases List.mem_singleton.mp h
                  exact ⟨hlk.2.1, hlk.1, fun z => hlk.2.2 z.symm⟩
              · exact ok.lo l (List.mem_of_mem_drop h)
            have fK : Kept H _ := ((s02.trans s3).trans (Same.kept s36)).mut (a := d) (o := .dK (putK (kvs3 N.v ra la) (.inr (Str.ofString "links")) (.ref h))) hd0
            have fP : Pool p q cs (upd H6 d (.dK (putK (kvs3 N.v ra la) (.inr (Str.ofString "links")) (.ref h)))) := Pool.mut' hp (p3.same s36) hd0
            walk_at "rd"
            exact k d _ _ hd0 fN fO (by show (_ ++ _ : List (Nat × Nat)).length ≤ _; rw [List.length_append]; omega) fK fP
        · walk_at "rd"
          exact k d N _ hd0 ⟨ra, la, rs, hX⟩ ok hl s02 p2
theorem c_handed (W : TW K mg) : Cal P w K mg base 5 "_law_handed" P__law_handed spHanded := by
  have c__law_shaped := c_shaped (P := P) (w := w) (base := base) W
  obtain ⟨fd, F⟩ := W.f__law_handed
  refine ⟨_, fd, W.g__law_handed, F.kp, F.bindsN (fun _ _ _ _ _ _ us hl => match us, hl with | [_, _], _ => rfl), okN F sc__law_handed (fun vs H Q E h => ?_) (fun cdv A outer s H vs Q E hr h => ?_)⟩
  · obtain ⟨p, q, d, cs, N, rfl, _⟩ := h
    rfl
  · have hu := hu_of hr
    obtain ⟨p, q, d, cs, N, rfl, hp, ⟨ra, la, rs, hX⟩, ok, k⟩ := h
    have hr4 := ok.r4
    have hrl := hX.len
    refine ⟨_, (pss_cons (ps_set (i := 2) sc__law_handed.nd rfl (Or.inl rfl) (pe_cal c__law_shaped (hr.mono (by decide)) (pa_cons (pv 0) (pa_cons (pe_lc (own := [("_law_messages", 3)]) rfl sc__law_handed.nd (pi_listK K (pe_dget hu (pv 1) pe_str (fun _ _ => rfl))) (blkOk_by (own := [("_law_messages", 3)]) (by first | decide +kernel | kernel_rfl)) (fun _ _ _ _ _ => (pg_name (i := 3) sc__law_handed.nd rfl (Or.inl rfl))) (fun _ _ _ _ _ => pts_nil) (fun _ _ _ _ _ => (pe_cal c__law_shaped (hr.mono (by decide)) (pa_cons (pv 0) (pa_cons (pv 3) pa_nil))))) pa_nil))))
  (pss_one (ps_ret (pe_tup (pa_cons (pe_dget hu (pv 1) pe_str (fun _ _ => rfl)) (pa_cons (pv 2) (pa_cons (pe_cal c__law_shaped (hr.mono (by decide)) (pa_cons (pv 0) (pa_cons (pe_dget hu (pv 1) pe_str (fun _ _ => rfl)) pa_nil))) pa_nil))))))), ?_⟩
    walk_at "rd0"
    refine ⟨d, _, rfl, hX.gn, ?_⟩
    refine ⟨ra, rfl, ⟨_, SqL.of hX.nodes⟩, fun D hD => lc_draw walk_list ySame_at (by rw [List.length_map]; omega) hD hp (fun i acc H => ∃ ts : List (Addr × Bool × List Nat), acc = (ts.map fun r => .ref r.1) ∧ ts.map (·.2.2) = (rs.take i).map (·.2) ∧ ∀ t ∈ ts, t.1 ≠ D ∧ H t.1 = some (sq t.2.1 (t.2.2.map tv)))
      (fun _ => ⟨[], rfl, rfl, (fun m h => nomatch h)⟩) (fun i acc H H' ⟨ts, e, l, h⟩ kx => ⟨ts, e, l, fun r hr => let ⟨a, b⟩ := h r hr; ⟨a, kx _ _ a (isPool_sqS _ txt _) b⟩⟩) (fun i acc _ ⟨ts, e, _⟩ => by rw [e]; exact isPool_refs _ _) (fun H2 s => SqL.of (hX.kept s).nodes) ?_ fun H1 acc s1 p1 hl ha e1 => ?_⟩
    · rintro i x Hc H' R E hi s hpc ⟨rfl, hx⟩ hR hE
      rw [List.length_map] at hi
      rw [List.getElem?_map, List.getElem?_eq_getElem hi] at hx
      cases hx
      have ec := (hX.kept s).cells _ (List.getElem_mem hi)
      walk_at "wp"
      walk_at "rd"
      refine ⟨rfl, ?_⟩
      walk_at "rd"
      refine ⟨p, q, _, cs, _, rfl, hpc, ec, isPool_strs txt _, fun b c H4 hcn e4 s4 p4 => ?_⟩
      refine hR _ _ s4 p4 fun acc eD ⟨ts, e, em, h⟩ => ?_
      have hDc : c ≠ D := by
        rintro rfl
        rw [eD] at hcn; cases hcn
      refine ⟨ts ++ [(c, b, rs[i].2)], by rw [e, List.map_append]; rfl, ?_, fun t ht => ?_⟩
      · rw [List.map_append, em, List.take_add_one, List.getElem?_eq_getElem hi, List.map_append]
        rfl
      · rcases List.mem_append.mp ht with h1 | h1
        · obtain ⟨a1, a2⟩ := h t h1
          exact ⟨a1, s4.get a2 (isPool_sqS _ txt _)⟩
        · cases List.mem_singleton.mp h1
          exact ⟨hDc, e4⟩
    · obtain ⟨ts, rfl, em, hts⟩ := ha
      rw [List.length_map, List.take_length, hX.eq] at em
      walk_at "rd"
      refine ⟨p, q, D, cs, _, rfl, p1, e1, isPool_refs _ _, fun sb b H2 hb eb s2 p2 => ?_⟩
      have hX2 := hX.kept (s1.trans s2)
      walk_at "rd"
      refine ⟨d, _, rfl, hX2.gv, ?_⟩
      walk_at "rd"
      refine ⟨d, _, rfl, hX2.gl, ?_⟩
      walk_at "rd"
      refine ⟨p, q, la, cs, _, rfl, p2, hX2.links, isPool_strs lk _, fun sc c H3 hc ec s3 p3 => ?_⟩
      walk_at "rd"
      refine ⟨(by show 3 ≤ sizeLine; decide), fun T hT => ?_⟩
      have s4 := same_new (o := .tup [.int (N.v : Nat), .ref b, .ref c]) hT
      refine k T _ (((s1.trans s2).trans s3).dom _ hT) ⟨b, c, sb, sc, ts, upd_same, s4 _ _ (s3.get eb (isPool_sqR _ _ _)), em, fun t ht => s4 _ _ ((s2.trans s3).get (hts t ht).2 (isPool_sqS _ txt _)), s4 _ _ ec⟩ (((s1.trans s2).trans s3).trans (Same.kept s4)) (p3.same s4)
end
end Kn
set_option Elab.async false
set_option linter.all false
set_option maxRecDepth 100000
set_option maxHeartbeats 4000000
namespace Kn
open PySem PySem.Spec PyProof.Rows L2
theorem r_chain {r r' : R2} {ta tb tc : TE} {σ : L2.St} {H : Hp} {Q : VK} (h : ta σ H fun x H1 => tb σ H1 fun y H2 => r x y H2 fun z H3 => ∃ k, z = .bl k ∧
  (if k = true then tc σ H3 fun w' H4 => r' y w' H4 Q else Q (.bl false) H3)) : tChain r r' ta tb tc σ H Q := h
/-- a comprehension that changes nothing but its own new list, told step by step -/
theorem lc_acc {J : It} {n : Nat} {G : Hp → Prop} {Y : Nat → Hp → V → Hp → Prop} (w : Walk J n G Y) (hY : ∀ i H x H', Y i H x H' → Same H H') {g : TG} {tt : TT} {te : TE} {vs : List Nat} {σ : L2.St} {H1 : Hp} {D : Addr} {Qd : Hp → Prop} (hn : n < 16777216) (hD : H1 D = none)
    (Acc : Nat → List V → Hp → Prop) (a0 : ∀ H, Acc 0 [] H) (hst : ∀ i acc H H', Acc i acc H → (∀ b o, b ≠ D → H b = some o → H' b = some o) → Acc i acc H') (hG : ∀ H, Same H1 H → G H)
    (hs : ∀ i x Hc H' (R : VK) (E : Hp → Prop), i < n → Same H1 Hc → (∃ acc, Hc D = some (.lst acc)) → Y i Hc x H' →
      (∀ y H4, Same H' H4 → (∀ acc, Acc i acc Hc → Acc (i + 1) (acc ++ [y]) H4) → R y H4) → (∀ H4, Same H' H4 → (∀ acc, Acc i acc Hc → Acc (i + 1) acc H4) → E H4) →
      g x (wipe σ vs) H' fun σ2 H2 => wipe σ2 vs = wipe σ vs ∧ tt σ2 H2 fun b H3 => if b = true then te σ2 H3 R else E H3)
    (hd : ∀ H' acc, Same H1 H' → acc.length ≤ n → Acc n acc H' → H' D = some (.lst acc) → Qd H') :
    ∃ W : Nat → Nat → Hp → Prop, (∃ m, W 0 m (upd H1 D (.lst []))) ∧ ∀ i m H, W i m H →
      (J.stop i H ∧ Qd H) ∨ (J.go i H ∧ ∃ Nx : Hp → Prop, (∀ H', Nx H' → ∃ m', m' < m ∧ W (i + 1) m' H') ∧ ∀ x H', J.yld i H x H' → g x (wipe σ vs) H' fun σ2 H2 => wipe σ2 vs = wipe σ vs ∧ tt σ2 H2 fun b H3 =>
        if b = true then te σ2 H3 fun y H4 => ∃ acc, H4 D = some (.lst acc) ∧ acc.length < sizeLine ∧ Nx (upd H4 D (.lst (acc ++ [y]))) else Nx H3) := by
  refine lc_it w (fun i H => Same H1 H ∧ ∃ acc, H D = some (.lst acc) ∧ acc.length ≤ i ∧ Acc i acc H) ⟨same_new hD, [], upd_same, Nat.zero_le _, a0 _⟩ (fun i H _ q => hG H q.1) ?_ fun H ⟨s, acc, e, hl, ha⟩ => hd H acc s hl ha e
  rintro i x Hc H' hi ⟨s, acc, e, hl, ha⟩ y
  have hY' := hY _ _ _ _ y
  refine hs i x Hc H' _ _ hi s ⟨acc, e⟩ y (fun v H4 s4 k => ?_) fun H4 s4 k => ?_
  · refine ⟨acc, s4 _ _ (hY' _ _ e), ?_, Same.mut (s.trans (hY'.trans s4)) hD, acc ++ [v], upd_same, ?_, ?_⟩
    · have e : sizeLine = 16777216 := sizeLine_eq
      omega
    · rw [List.length_append]
      show acc.length + 1 ≤ _
      omega
    · exact hst _ _ _ _ (k acc ha) fun b o hb h => by rw [upd_ne hb]; exact h
  · exact ⟨s.trans (hY'.trans s4), acc, s4 _ _ (hY' _ _ e), by omega, k acc ha⟩
theorem r_blN {b : Bool} {A B : Prop} (h : if (!b) = true then A else B) : ∃ k, V.bl b = V.bl k ∧ if (!k) = true then A else B := ⟨b, rfl, h⟩
local macro_rules | `(tactic| walk_at "hp") => `(tactic| first | assumption | exact upd_same | (rw [upd_ne (by assumption)]; walk_at "hp"))
local macro_rules | `(tactic| walk_at "r1") => `(tactic| first
  | with_reducible refine r_seq ?_
  | with_reducible refine r_asg ?_
  | (with_reducible refine r_name ?_; try dsimp only [List.set_cons_succ, List.set_cons_zero])
  | ((with_reducible refine' r_var (v := ?v1) ?h1 ?q1); (case h1 => exact rfl))
  | with_reducible refine r_c ?_
  | with_reducible refine r_op ?_
  | with_reducible refine r_un ?_
  | with_reducible refine r_I0 ?_
  | with_reducible refine r_U ?_
  | with_reducible refine r_ret ?_
  | with_reducible refine r_retN ?_
  | with_reducible refine r_drop ?_
  | with_reducible refine r_next ?_
  | with_reducible refine r_brk ?_
  | with_reducible refine r_cons ?_
  | with_reducible refine r_nil ?_
  | with_reducible refine r_cb ?_
  | with_reducible refine r_ckw ?_
  | with_reducible refine r_test ?_
  | with_reducible refine r_B ?_
  | with_reducible refine r_blN ?_
  | with_reducible refine r_bl ?_
  | with_reducible refine r_ifS ?_
  | with_reducible refine r_if ?_
  | with_reducible refine r_not ?_
  | with_reducible refine r_and ?_
  | with_reducible refine r_or ?_
  | with_reducible refine r_andV ?_
  | with_reducible refine r_andB ?_
  | with_reducible refine r_notV ?_
  | with_reducible refine r_notB ?_
  | with_reducible refine r_call ?_
  | with_reducible refine r_make ?_
  | with_reducible refine r_meth ?_
  | with_reducible refine r_fld ?_
  | with_reducible refine r_tup ?_
  | with_reducible refine r_lst ?_
  | with_reducible refine r_sub ?_
  | with_reducible refine r_sl ?_
  | with_reducible refine r_nop ?_
  | with_reducible refine r_part ?_
  | with_reducible refine r_pti ?_
  | with_reducible refine r_bm ?_
  | with_reducible refine r_m1 ?_
  | with_reducible refine r_m1s ?_
  | with_reducible refine r_dget ?_
  | with_reducible refine r_eq ?_
  | with_reducible refine r_ne ?_
  | with_reducible refine r_eqS ?_
  | with_reducible refine r_neS ?_
  | with_reducible refine r_for ?_
  | with_reducible refine r_lc ?_
  | with_reducible refine r_yes ?_
  | with_reducible refine r_iStr ?_
  | with_reducible refine r_iList ?_
  | with_reducible refine r_iTup ?_
  | with_reducible refine r_iSq ?_
  | with_reducible refine r_iRng ?_
  | with_reducible refine r_iEnumQ ?_
  | with_reducible refine r_iEnumS ?_
  | with_reducible refine r_iEnum ?_
  | with_reducible refine r_iZip ?_
  | with_reducible refine r_tr ?_
  | with_reducible refine r_iSqK ?_
  | with_reducible refine r_fldS ?_
  | with_reducible refine r_dput ?_
  | with_reducible refine r_din ?_
  | with_reducible refine r_gcons ?_
  | with_reducible refine r_gnil ?_
  | with_reducible refine r_gtup upd_same rfl ?_
  | with_reducible refine r_chain ?_
  | with_reducible refine iteT ?_
  | with_reducible refine iteF ?_)
local macro_rules | `(tactic| walk_at "wp") => `(tactic| dsimp only [wipe, List.map_cons, List.map_nil, List.set_cons_succ, List.set_cons_zero])
local macro_rules | `(tactic| walk_at "rd") => `(tactic| repeat (walk_at "r1"))
local macro_rules | `(tactic| walk_at "rd0") => `(tactic| (simp only [L2.start, List.map_cons, List.map_nil, List.length_cons, List.length_nil, Nat.reduceAdd, Nat.reduceSub, List.replicate_succ, List.replicate_zero, List.nil_append, List.cons_append]; repeat (walk_at "r1")))
local macro_rules | `(tactic| walk_at "wp") => `(tactic| dsimp only [wipe, List.map_cons, List.map_nil, List.set_cons_succ, List.set_cons_zero])
/-! ### Network -/
abbrev CN (K : PySem.W.Frag) : Addr := He.ga K "Network"
def nwF (v : Nat) (tn tl : Addr) : List (Str × V) := [("variables", .int (v : Nat)), ("nodes", .ref tn), ("links", .ref tl)]
structure NwX (K : PySem.W.Frag) (H : Hp) (w : Addr) (N : Net) (dx tn tl : Addr) (ts : List (Addr × List Nat)) : Prop where
  ins : H w = some (.ins (CN K) dx (nwF N.v tn tl))
  nodes : H tn = some (.tup (ts.map fun t => .ref t.1))
  eq : ts.map (·.2) = N.rows
  cells : ∀ t ∈ ts, H t.1 = some (.tup (t.2.map tv))
  links : H tl = some (.tup (N.links.map fun l => .str (lk l)))
def NwAt (K : PySem.W.Frag) (H : Hp) (w : Addr) (N : Net) : Prop := ∃ dx tn tl ts, NwX K H w N dx tn tl ts
theorem NwX.kept {K : PySem.W.Frag} {H H' : Hp} {w : Addr} {N : Net} {dx tn tl : Addr} {ts : List (Addr × List Nat)} (h : NwX K H w N dx tn tl ts) (k : Kept H H') : NwX K H' w N dx tn tl ts :=
  ⟨k.get h.ins, k.get h.nodes, h.eq, fun r hr => k.get (h.cells r hr), k.get h.links⟩
theorem NwX.same {K : PySem.W.Frag} {H H' : Hp} {w : Addr} {N : Net} {dx tn tl : Addr} {ts : List (Addr × List Nat)} (h : NwX K H w N dx tn tl ts) (k : Same H H') : NwX K H' w N dx tn tl ts := h.kept (Same.kept k)
theorem NwAt.kept {K : PySem.W.Frag} {H H' : Hp} {w : Addr} {N : Net} (h : NwAt K H w N) (k : Kept H H') : NwAt K H' w N := let ⟨a, b, c, d, q⟩ := h; ⟨a, b, c, d, q.kept k⟩
theorem NwAt.same {K : PySem.W.Frag} {H H' : Hp} {w : Addr} {N : Net} (h : NwAt K H w N) (k : Same H H') : NwAt K H' w N := h.kept (Same.kept k)
theorem nwF_v (v : Nat) (tn tl : Addr) : (nwF v tn tl).lookup (Str.ofString "variables") = some (V.int (v : Nat)) := rfl
theorem nwF_n (v : Nat) (tn tl : Addr) : (nwF v tn tl).lookup (Str.ofString "nodes") = some (V.ref tn) := rfl
theorem nwF_l (v : Nat) (tn tl : Addr) : (nwF v tn tl).lookup (Str.ofString "links") = some (V.ref tl) := rfl
theorem NwX.len {K : PySem.W.Frag} {H : Hp} {w : Addr} {N : Net} {dx tn tl : Addr} {ts : List (Addr × List Nat)} (h : NwX K H w N dx tn tl ts) : ts.length = N.rows.length := by rw [← h.eq, List.length_map]
theorem NwX.row {K : PySem.W.Frag} {H : Hp} {w : Addr} {N : Net} {dx tn tl : Addr} {ts : List (Addr × List Nat)} (h : NwX K H w N dx tn tl ts) {i : Nat} (hi : i < N.rows.length) : ∃ a, (ts.map fun r => V.ref r.1)[i]? = some (.ref a) ∧ H a = some (.tup ((N.rows.getD i []).map tv)) := by
  have hl : i < ts.length := by rw [h.len]; exact hi
  refine ⟨ts[i].1, by rw [List.getElem?_map, List.getElem?_eq_getElem hl]; rfl, ?_⟩
  have e : N.rows.getD i [] = ts[i].2 := by
    rw [List.getD_eq_getElem?_getD, ← h.eq, List.getElem?_map, List.getElem?_eq_getElem hl]; rfl
  rw [e]
  exact h.cells _ (List.getElem_mem hl)
def HandN (H : Hp) (N : Net) (b : Addr) (sb : Bool) (ts : List (Addr × Bool × List Nat)) : Prop :=
  H b = some (sq sb (ts.map fun t => .ref t.1)) ∧ ts.map (·.2.2) = N.rows ∧ ∀ t ∈ ts, H t.1 = some (sq t.2.1 (t.2.2.map tv))
def HandL (H : Hp) (N : Net) (c : Addr) (sc : Bool) : Prop := H c = some (sq sc (N.links.map fun l => .str (lk l)))
def spChkN : Sp := fun vs H Q _ => ∃ (N : Net) (b : Addr) (sb : Bool) (ts : List (Addr × Bool × List Nat)), vs = [.int (N.v : Nat), .ref b] ∧ NetOK N ∧ HandN H N b sb ts ∧ ∀ H', Same H H' → Q .non H'
def spChkL : Sp := fun vs H Q _ => ∃ (N : Net) (c : Addr) (sc : Bool), vs = [.int (N.rows.length : Nat), .ref c] ∧ NetOK N ∧ HandL H N c sc ∧ ∀ H', Same H H' → Q .non H'
def spNw (K : PySem.W.Frag) : Sp := fun vs H Q _ => ∃ (w dx : Addr) (N : Net) (b c : Addr) (sb sc : Bool) (ts : List (Addr × Bool × List Nat)), vs = [.ref w, .int (N.v : Nat), .ref b, .ref c] ∧ H w = some (.ins (CN K) dx []) ∧ NetOK N ∧ HandN H N b sb ts ∧ HandL H N c sc ∧
  ∀ H', (∀ b o, b ≠ w → H b = some o → H' b = some o) → (∀ b, H' b = none → H b = none) → NwAt K H' w N → Q .non H'
def spNL (K : PySem.W.Frag) : Sp := fun vs H Q _ => ∃ (w : Addr) (N : Net), vs = [.ref w] ∧ NwAt K H w N ∧ NetOK N ∧ ∀ H', Same H H' → Q (sv (2 ^ N.rows.length - 1)) H'
def spNN (K : PySem.W.Frag) : Sp := fun vs H Q _ => ∃ (w : Addr) (N : Net) (i : Nat), vs = [.ref w, .str (nl i)] ∧ NwAt K H w N ∧ NetOK N ∧ i < N.rows.length ∧ ∀ H', Same H H' → Q (iN i) H'
theorem sq_len {K : PySem.W.Frag} {H : Hp} {a : Addr} {b : Bool} {xs : List V} (h : H a = some (sq b xs)) : LenV K (.ref a) H xs.length := by
  cases b with
  | false => exact .inl ⟨_, SqL.of h, rfl⟩
  | true => exact .inr ⟨_, SqT.of h, rfl⟩
section
variable {P : Program} {w : World} {K : PySem.W.Frag} {mg : Str → Option Value} {base : Heap}
theorem c_chkN (W : TW K mg) : Cal P w K mg base 3 "check_nodes" P_check_nodes spChkN := by
  have c_is_message := c_ismsg (P := P) (w := w) (base := base) W
  obtain ⟨fd, F⟩ := W.f_check_nodes
  refine ⟨_, fd, W.g_check_nodes, F.kp, F.bindsN (fun _ _ _ _ _ _ us hl => match us, hl with | [_, _], _ => rfl), okN F sc_check_nodes (fun vs H Q E h => ?_) (fun cdv A outer s H vs Q E hr h => ?_)⟩
  · obtain ⟨N, b, sb, ts, rfl, _⟩ := h
    rfl
  · have hu := hu_of hr
    obtain ⟨N, b, sb, ts, rfl, ok, ⟨h1, h2, h3⟩, k⟩ := h
    have hr0 := ok.r0
    have hr4 := ok.r4
    have hl : ts.length = N.rows.length := by rw [← h2, List.length_map]
    refine ⟨_, (pss_cons (ps_if (pt_not (pt_chain op_le op_le pe_int (pe_callB (lenK K) rfl W.z_len PySem.boot_len (pa_cons (pv 1) pa_nil)) (pe_callB (lenK K) rfl W.z_len PySem.boot_len (pa_cons (pe_gstr rfl W.v_NODE_LETTERS) pa_nil))))
   (pss_one ps_never)
   pss_nil)
  (pss_one (ps_for PassesOwn.never rfl (pi_enumQ rfl W.z_enumerate (pa_cons (pv 1) pa_nil)) (pg_tupK K rfl (pgs_cons (pg_name (i := 2) sc_check_nodes.nd rfl (Or.inl rfl)) (pgs_cons (pg_name (i := 3) sc_check_nodes.nd rfl (Or.inl rfl)) pgs_nil)))
   (pss_cons (ps_if (pt_cmpR op_gt (pe_callB (lenK K) rfl W.z_len PySem.boot_len (pa_cons (pv 3) pa_nil)) (pe_gint rfl W.v_MOST_MESSAGES) (nomark _))
   (pss_one ps_never)
   pss_nil)
  (pss_one (ps_if (pt_not (pt_val (pe_callB (allK K) rfl W.z_all (by decide +kernel) (pa_cons (pe_lc (own := [("message", 4)]) rfl sc_check_nodes.nd (pi_seqK K (pv 3)) (blkOk_by (own := [("message", 4)]) (by first | decide +kernel | kernel_rfl)) (fun _ _ _ _ _ => (pg_name (i := 4) sc_check_nodes.nd rfl (Or.inl rfl))) (fun _ _ _ _ _ => pts_nil) (fun _ _ _ _ _ => (pe_cal c_is_message (hr.mono (by decide)) (pa_cons (pv 0) (pa_cons (pv 4) pa_nil))))) pa_nil))))
   (pss_one ps_never)
   pss_nil)))))), ?_⟩
    walk_at "rd0"
    refine ⟨_, _, rfl, sq_len h1, ?_⟩
    rw [List.length_map, hl]
    walk_at "rd"
    refine iteD (fun _ => ?_) (fun c => absurd c (by omega))
    walk_at "rd"
    refine ⟨_, 6, rfl, ⟨by decide, rfl⟩, ?_⟩
    walk_at "rd"
    walk_at "rd"
    refine iteN (fun c => absurd c (by omega)) (fun _ => ?_)
    walk_at "rd"
    refine ⟨b, sb, _, rfl, h1, fun J wk => for_w wk (fun i σ H' => Same H H' ∧ ∃ v1 v2, σ = [some (.int (N.v : Nat)), some (.ref b), v1, v2, none]) (by exact ⟨Same.refl _, none, none, rfl⟩) (fun i σ H' _ q => q.1 _ _ h1) ?_ ?_⟩
    · rintro i y σ H1 H2 hi ⟨s1, v1, v2, rfl⟩ ⟨T, ia, x, rfl, hT, rfl, hia, hx⟩
      cases hia
      rw [List.length_map] at hi
      dsimp only at hx
      rw [List.getElem?_map, List.getElem?_eq_getElem hi] at hx
      cases hx
      have hm := List.getElem_mem hi
      have hc := h3 _ hm
      have hrow : ts[i].2.2 ∈ N.rows := by rw [← h2]; exact List.mem_map.mpr ⟨_, hm, rfl⟩
      have hlr := ok.rl _ hrow
      have s2 := s1.trans (same_new (o := .tup [.int ((i : Nat) : Int), .ref ts[i].1]) hT)
      refine r_gtup upd_same rfl ?_
      walk_at "rd"
      generalize upd H1 T (.tup [.int ((i : Nat) : Int), .ref ts[i].1]) = H2 at s2 ⊢
      refine ⟨_, _, rfl, sq_len (s2 _ _ hc), ?_⟩
      rw [List.length_map]
      walk_at "rd"
      refine iteD (fun c => absurd c (by omega)) (fun _ => ?_)
      walk_at "rd"
      refine ⟨_, ts[i].2.1, _, rfl, sqQ_of (s2 _ _ hc), fun J wk D hD => lc_all wk ySame_at (by rw [List.length_map]; omega) hD (fun i => .bl true) (fun H3 s3 => sqQ_of (s3 _ _ (s2 _ _ hc))) ?_ fun H3 s3 e3 => ?_⟩
      · rintro j z Hc H' R E hj s ⟨rfl, hz⟩ hR
        rw [List.length_map] at hj
        rw [List.getElem?_map, List.getElem?_eq_getElem hj] at hz
        cases hz
        have hmm := ok.rm _ hrow _ (List.getElem_mem hj)
        walk_at "wp"
        walk_at "rd"
        refine ⟨rfl, ?_⟩
        walk_at "rd"
        exact ⟨N.v, _, rfl, ok.v, hmm.1, hmm.2, fun H4 s4 => hR _ s4⟩
      · walk_at "rd"
        rw [all_true] at e3
        refine ⟨D, _, rfl, SqL.of e3, ?_⟩
        rw [all_rep]
        walk_at "rd"
        refine iteF ?_
        walk_at "rd"
        exact ⟨s2.trans s3, _, _, rfl⟩
    · rintro σ H1 ⟨s1, v1, v2, rfl⟩
      walk_at "rd"
      exact k _ s1
theorem c_chkL (W : TW K mg) : Cal P w K mg base 2 "check_links" P_check_links spChkL := by
  have c_is_link := c_islink (P := P) (w := w) (base := base) W
  obtain ⟨fd, F⟩ := W.f_check_links
  refine ⟨_, fd, W.g_check_links, F.kp, F.bindsN (fun _ _ _ _ _ _ us hl => match us, hl with | [_, _], _ => rfl), okN F sc_check_links (fun vs H Q E h => ?_) (fun cdv A outer s H vs Q E hr h => ?_)⟩
  · obtain ⟨N, c, sc, rfl, _⟩ := h
    rfl
  · have hu := hu_of hr
    obtain ⟨N, c, sc, rfl, ok, h1, k⟩ := h
    have h1 : H c = some (sq sc (N.links.map fun l => .str (lk l))) := h1
    have h10 := ok.l10
    have hr4 := ok.r4
    refine ⟨_, (pss_cons (ps_if (pt_cmpR op_gt (pe_callB (lenK K) rfl W.z_len PySem.boot_len (pa_cons (pv 1) pa_nil)) (pe_gint rfl W.v_MOST_LINKS) (nomark _))
   (pss_one ps_never)
   pss_nil)
  (pss_one (ps_for PassesOwn.never rfl (pi_enumQ rfl W.z_enumerate (pa_cons (pv 1) pa_nil)) (pg_tupK K rfl (pgs_cons (pg_name (i := 2) sc_check_links.nd rfl (Or.inl rfl)) (pgs_cons (pg_name (i := 3) sc_check_links.nd rfl (Or.inl rfl)) pgs_nil)))
   (pss_one (ps_if (pt_not (pt_val (pe_cal c_is_link (hr.mono (by decide)) (pa_cons (pv 0) (pa_cons (pv 3) pa_nil)))))
   (pss_one ps_never)
   pss_nil))))), ?_⟩
    walk_at "rd0"
    refine ⟨_, _, rfl, sq_len h1, ?_⟩
    rw [List.length_map]
    walk_at "rd"
    refine iteD (fun c => absurd c (by omega)) (fun _ => ?_)
    walk_at "rd"
    refine ⟨c, sc, _, rfl, h1, fun J wk => for_w wk (fun i σ H' => Same H H' ∧ ∃ v1 v2, σ = [some (.int (N.rows.length : Nat)), some (.ref c), v1, v2]) (by exact ⟨Same.refl _, none, none, rfl⟩) (fun i σ H' _ q => q.1 _ _ h1) ?_ ?_⟩
    · rintro i y σ H1 H2 hi ⟨s1, v1, v2, rfl⟩ ⟨T, ia, x, rfl, hT, rfl, hia, hx⟩
      cases hia
      rw [List.length_map] at hi
      dsimp only at hx
      rw [List.getElem?_map, List.getElem?_eq_getElem hi] at hx
      cases hx
      have hl := ok.lo _ (List.getElem_mem hi)
      have s2 := s1.trans (same_new (o := .tup [.int ((i : Nat) : Int), .str (lk N.links[i])]) hT)
      refine r_gtup upd_same rfl ?_
      walk_at "rd"
      generalize upd H1 T (.tup [.int ((i : Nat) : Int), .str (lk N.links[i])]) = H2 at s2 ⊢
      refine ⟨N.rows.length, N.links[i], rfl, by omega, hl.1, hl.2.1, hl.2.2, fun H3 s3 => ?_⟩
      refine r_blN ?_
      refine iteF ?_
      walk_at "rd"
      exact ⟨s2.trans s3, _, _, rfl⟩
    · rintro σ H1 ⟨s1, v1, v2, rfl⟩
      walk_at "rd"
      exact k _ s1
theorem nw_put (v : Nat) (tn tl : Addr) : putF (Str.ofString "links") (.ref tl) (putF (Str.ofString "nodes") (.ref tn) (putF (Str.ofString "variables") (.int (v : Nat)) [])) = nwF v tn tl := rfl
theorem c_nw (W : TW K mg) : NCal P w K mg base 4 "Network" (CN K) P_Network_init [] (spNw K) := by
  have c_check_nodes := c_chkN (P := P) (w := w) (base := base) W
  have c_check_links := c_chkL (P := P) (w := w) (base := base) W
  obtain ⟨fd, F⟩ := W.f_Network_init
  refine ⟨_, fd, [], W.g_Network, W.mk_Network, F.bindsN (fun _ _ _ _ _ _ us hl => match us, hl with | [_, _, _, _], _ => rfl), .nil, okN F sc_Network_init (fun vs H Q E h => ?_) (fun cdv A outer s H vs Q E hr h => ?_)⟩
  · obtain ⟨x, dx, N, b, c, sb, sc, ts, rfl, _⟩ := h
    rfl
  · have hu := hu_of hr
    obtain ⟨x, dx, N, b, c, sb, sc, ts, rfl, hx, ok, ⟨h1, h2, h3⟩, hc, k⟩ := h
    have hc : H c = some (sq sc (N.links.map fun l => .str (lk l))) := hc
    have hr0 := ok.r0
    have hr4 := ok.r4
    have hv := ok.v
    have hl : ts.length = N.rows.length := by rw [← h2, List.length_map]
    refine ⟨_, (pss_cons (ps_if (pt_not (pt_chain op_le op_le pe_int (pv 1) (pe_callB (lenK K) rfl W.z_len PySem.boot_len (pa_cons (pe_gstr rfl W.v_VARIABLE_LETTERS) pa_nil))))
   (pss_one ps_never)
   pss_nil)
  (pss_cons (ps_expr (pe_cal c_check_nodes (hr.mono (by decide)) (pa_cons (pv 1) (pa_cons (pv 2) pa_nil))))
  (pss_cons (ps_expr (pe_cal c_check_links (hr.mono (by decide)) (pa_cons (pe_callB (lenK K) rfl W.z_len PySem.boot_len (pa_cons (pv 2) pa_nil)) (pa_cons (pv 3) pa_nil))))
  (pss_cons (ps_fldK K (pv 0) (pv 1))
  (pss_cons (ps_fldK K (pv 0) (pe_callTy (tupK K) rfl W.z_tuple (by decide +kernel) (pa_cons (pe_lc (own := [("messages", 4)]) rfl sc_Network_init.nd (pi_seqK K (pv 2)) (blkOk_by (own := [("messages", 4)]) (by first | decide +kernel | kernel_rfl)) (fun _ _ _ _ _ => (pg_name (i := 4) sc_Network_init.nd rfl (Or.inl rfl))) (fun _ _ _ _ _ => pts_nil) (fun _ _ _ _ _ => (pe_callTy (tupK K) rfl W.z_tuple (by decide +kernel) (pa_cons (pv 4) pa_nil)))) pa_nil)))
  (pss_one (ps_fldK K (pv 0) (pe_callTy (tupK K) rfl W.z_tuple (by decide +kernel) (pa_cons (pv 3) pa_nil))))))))), ?_⟩
    walk_at "rd0"
    refine iteD (fun _ => ?_) (fun c => absurd c (by omega))
    walk_at "rd"
    refine ⟨_, 6, rfl, ⟨by decide, rfl⟩, ?_⟩
    walk_at "rd"
    refine iteN (fun c => absurd c (by omega)) (fun _ => ?_)
    walk_at "rd"
    refine ⟨N, b, sb, ts, rfl, ok, ⟨h1, h2, h3⟩, fun H1 s1 => ?_⟩
    walk_at "rd"
    refine ⟨_, _, rfl, sq_len (s1 _ _ h1), ?_⟩
    rw [List.length_map, hl]
    walk_at "rd"
    refine ⟨N, c, sc, rfl, ok, s1 _ _ hc, fun H2 s2 => ?_⟩
    have s12 := s1.trans s2
    walk_at "rd"
    refine ⟨x, _, dx, _, rfl, s12 _ _ hx, W.cls_Network, W.n_Network_variables, (by decide), ?_⟩
    have kp : ∀ b o, b ≠ x → H b = some o → upd H2 x (.ins (He.ga K "Network") dx (putF "variables" (.int (N.v : Nat)) [])) b = some o := fun b o hb e => by rw [upd_ne hb]; exact s12 _ _ e
    have dm : ∀ b, upd H2 x (.ins (He.ga K "Network") dx (putF "variables" (.int (N.v : Nat)) [])) b = none → H b = none := fun b e => by
      by_cases z : b = x
      · rw [z, upd_same] at e; cases e
      · rw [upd_ne z] at e; exact s12.free e
    have ex : upd H2 x (.ins (He.ga K "Network") dx (putF "variables" (.int (N.v : Nat)) [])) x = some (.ins (He.ga K "Network") dx (putF "variables" (.int (N.v : Nat)) [])) := upd_same
    generalize upd H2 x (.ins (He.ga K "Network") dx (putF "variables" (.int (N.v : Nat)) [])) = H3 at kp dm ex ⊢
    have nsq : ∀ {b : Bool} {xs : List V} {a : Addr}, H a = some (sq b xs) → a ≠ x := fun {b xs a} e => ne_of e hx (by cases b <;> intro q <;> cases q)
    walk_at "rd"
    refine ⟨b, sb, _, rfl, sqQ_of (kp _ _ (nsq h1) h1), fun J wk D hD => lc_acc wk ySame_at (by rw [List.length_map]; omega) hD (fun i acc H => ∃ us : List (Addr × List Nat), acc = (us.map fun u => .ref u.1) ∧ us.map (·.2) = (ts.take i).map (·.2.2) ∧ ∀ u ∈ us, u.1 ≠ D ∧ H u.1 = some (.tup (u.2.map tv)))
      (fun _ => ⟨[], rfl, rfl, (fun _ h => nomatch h)⟩) (fun i acc H H' ⟨us, e, l, h⟩ kk => ⟨us, e, l, fun u hu => let ⟨a, b⟩ := h u hu; ⟨a, kk _ _ a b⟩⟩) (fun H4 s4 => sqQ_of (s4 _ _ (kp _ _ (nsq h1) h1))) ?_ fun H4 acc s4 hla ha e4 => ?_⟩
    · rintro i z Hc H' R E hi s ⟨acc0, eD⟩ ⟨rfl, hz⟩ hR hE
      rw [List.length_map] at hi
      rw [List.getElem?_map, List.getElem?_eq_getElem hi] at hz
      cases hz
      have hcell0 := h3 _ (List.getElem_mem hi)
      have hcell := s _ _ (kp _ _ (nsq hcell0) hcell0)
      have hDt : ts[i].1 ≠ D := ne_of_none (kp _ _ (nsq hcell0) hcell0) hD
      walk_at "wp"
      walk_at "rd"
      refine ⟨rfl, ?_⟩
      walk_at "rd"
      cases cb : ts[i].2.1 with
      | false =>
        rw [cb] at hcell
        refine ⟨_, _, rfl, .inl ⟨SqL.of hcell, fun T hT => ?_⟩⟩
        refine hR _ _ (same_new hT) fun acc ⟨us, e, em, h⟩ => ⟨us ++ [(T, ts[i].2.2)], by rw [e, List.map_append]; rfl, ?_, fun u hu => ?_⟩
        · rw [List.map_append, em, List.take_add_one, List.getElem?_eq_getElem hi, List.map_append]
          rfl
        · rcases List.mem_append.mp hu with q | q
          · obtain ⟨a1, a2⟩ := h u q
            exact ⟨a1, same_new hT _ _ a2⟩
          · cases List.mem_singleton.mp q
            exact ⟨fun z => (by have z : T = D := z; rw [z, eD] at hT; cases hT), upd_same⟩
      | true =>
        rw [cb] at hcell
        refine ⟨_, _, rfl, .inr ⟨SqT.of hcell, ?_⟩⟩
        refine hR _ _ (Same.refl _) fun acc ⟨us, e, em, h⟩ => ⟨us ++ [(ts[i].1, ts[i].2.2)], by rw [e, List.map_append]; rfl, ?_, fun u hu => ?_⟩
        · rw [List.map_append, em, List.take_add_one, List.getElem?_eq_getElem hi, List.map_append]
          rfl
        · rcases List.mem_append.mp hu with q | q
          · exact h u q
          · cases List.mem_singleton.mp q
            exact ⟨hDt, hcell⟩
    · rw [List.length_map, List.take_length] at ha
      obtain ⟨us, rfl, em, hus⟩ := ha
      walk_at "rd"
      refine ⟨_, _, rfl, .inl ⟨SqL.of e4, fun T hT => ?_⟩⟩
      have s5 := s4.trans (same_new (o := .tup (us.map fun u => .ref u.1)) hT)
      have hT5 : upd H4 T (.tup (us.map fun u => .ref u.1)) T = some (.tup (us.map fun u => .ref u.1)) := upd_same
      have hus5 : ∀ u ∈ us, upd H4 T (.tup (us.map fun u => .ref u.1)) u.1 = some (.tup (u.2.map tv)) := fun u hu => same_new hT _ _ (hus u hu).2
      generalize upd H4 T (.tup (us.map fun u => .ref u.1)) = H5 at s5 hT5 hus5 ⊢
      walk_at "rd"
      refine ⟨x, _, dx, _, rfl, s5 _ _ ex, W.cls_Network, W.n_Network_nodes, (by show 1 < 1000; decide), ?_⟩
      have ntx : ∀ {a : Addr} {xs : List V}, H5 a = some (.tup xs) → a ≠ x := fun {a xs} e => ne_of e (s5 _ _ ex) (by intro q; cases q)
      have kp6 : ∀ b o, b ≠ x → H5 b = some o → upd H5 x (.ins (He.ga K "Network") dx (putF "nodes" (.ref T) (putF "variables" (.int (N.v : Nat)) []))) b = some o := fun b o hb e => by rw [upd_ne hb]; exact e
      have dm6 : ∀ b, upd H5 x (.ins (He.ga K "Network") dx (putF "nodes" (.ref T) (putF "variables" (.int (N.v : Nat)) []))) b = none → H5 b = none := fun b e => by
        by_cases z : b = x
        · rw [z, upd_same] at e; cases e
        · rw [upd_ne z] at e; exact e
      have ex6 : upd H5 x (.ins (He.ga K "Network") dx (putF "nodes" (.ref T) (putF "variables" (.int (N.v : Nat)) []))) x = some (.ins (He.ga K "Network") dx (putF "nodes" (.ref T) (putF "variables" (.int (N.v : Nat)) []))) := upd_same
      generalize upd H5 x (.ins (He.ga K "Network") dx (putF "nodes" (.ref T) (putF "variables" (.int (N.v : Nat)) []))) = H6 at kp6 dm6 ex6 ⊢
      walk_at "rd"
      have hc6 := kp6 _ _ (nsq hc) (s5 _ _ (kp _ _ (nsq hc) hc))
      have fin : ∀ (tl : Addr) (H7 : Hp), Same H6 H7 → H7 tl = some (.tup (N.links.map fun l => .str (lk l))) → ∃ a C dx' fs, V.ref x = .ref a ∧ H7 a = some (.ins C dx' fs) ∧ Cls K C ∧ NoAttr K C "links" ∧ fs.length < 1000 ∧ Q .non (upd H7 a (.ins C dx' (putF "links" (.ref tl) fs))) := fun tl H7 s7 e7 => by
        refine ⟨x, _, dx, _, rfl, s7 _ _ ex6, W.cls_Network, W.n_Network_links, (by show 2 < 1000; decide), ?_⟩
        have ntx7 : ∀ {a : Addr} {xs : List V}, H7 a = some (.tup xs) → a ≠ x := fun {a xs} e => ne_of e (s7 _ _ ex6) (by intro q; cases q)
        refine k _ (fun b o hb e => ?_) (fun b e => ?_) ⟨dx, T, tl, us, ⟨?_, ?_, ?_, fun u hu => ?_, ?_⟩⟩
        · rw [upd_ne hb]
          exact s7 _ _ (kp6 _ _ hb (s5 _ _ (kp _ _ hb e)))
        · by_cases z : b = x
          · rw [z, upd_same] at e; cases e
          · rw [upd_ne z] at e
            exact dm _ (s5.free (dm6 _ (s7.free e)))
        · rw [upd_same]; rfl
        · have e := s7 _ _ (kp6 _ _ (ntx hT5) hT5)
          rw [upd_ne (ntx7 e)]; exact e
        · rw [em, h2]
        · have e := s7 _ _ (kp6 _ _ (ntx (hus5 u hu)) (hus5 u hu))
          rw [upd_ne (ntx7 e)]; exact e
        · rw [upd_ne (ntx7 e7)]; exact e7
      cases sc with
      | false =>
        refine ⟨c, _, rfl, .inl ⟨SqL.of hc6, fun tl htl => ?_⟩⟩
        walk_at "rd"
        exact fin tl _ (same_new htl) upd_same
      | true =>
        refine ⟨c, _, rfl, .inr ⟨SqT.of hc6, ?_⟩⟩
        walk_at "rd"
        exact fin c _ (Same.refl _) hc6
theorem c_nl (W : TW K mg) : MCal P w K mg base 1 (CN K) "node_letters" P_Network_node_letters (spNL K) := by
  obtain ⟨fd, F⟩ := W.f_Network_node_letters
  refine ⟨_, fd, W.m_Network_node_letters, F.bindsN (fun _ _ _ _ _ _ us hl => match us, hl with | [_], _ => rfl), okN F sc_Network_node_letters (fun vs H Q E h => ?_) (fun cdv A outer s H vs Q E hr h => ?_)⟩
  · obtain ⟨x, N, rfl, _⟩ := h
    rfl
  · have hu := hu_of hr
    obtain ⟨x, N, rfl, ⟨dx, tn, tl, ts, hN⟩, ok, k⟩ := h
    have hr4 := ok.r4
    refine ⟨_, (pss_one (ps_ret (pe_slice sl_str (pe_gstr rfl W.v_NODE_LETTERS) po_none (po_some (pe_callB (lenK K) rfl W.z_len PySem.boot_len (pa_cons (pe_fldK K (pv 0)) pa_nil)))))), ?_⟩
    walk_at "rd0"
    refine ⟨_, _, _, _, _, rfl, hN.ins, W.cls_Network, W.n_Network_nodes, rfl, ?_⟩
    walk_at "rd"
    refine ⟨_, _, rfl, .inr ⟨_, SqT.of hN.nodes, by rw [List.length_map]⟩, ?_⟩
    rw [hN.len]
    refine ⟨_, rfl, ?_⟩
    walk_at "rd"
    refine ⟨_, rfl, (by decide), ?_⟩
    have ec : cutS (Str.ofString "ABCDEF") none (some ((N.rows.length : Nat) : Int)) = nset (2 ^ N.rows.length - 1) := n_cut _ (by omega)
    rw [ec]
    exact k _ (Same.refl _)
theorem c_nn (W : TW K mg) : Cal P w K mg base 2 "node_number" P_node_number (spNN K) := by
  have c_Network_node_letters := c_nl (P := P) (w := w) (base := base) W
  obtain ⟨fd, F⟩ := W.f_node_number
  refine ⟨_, fd, W.g_node_number, F.kp, F.bindsN (fun _ _ _ _ _ _ us hl => match us, hl with | [_, _], _ => rfl), okN F sc_node_number (fun vs H Q E h => ?_) (fun cdv A outer s H vs Q E hr h => ?_)⟩
  · obtain ⟨x, N, i, rfl, _⟩ := h
    rfl
  · have hu := hu_of hr
    obtain ⟨x, N, i, rfl, hN, ok, hi, k⟩ := h
    have hr4 := ok.r4
    refine ⟨_, (pss_cons (ps_if (PW.pt (pw_or (pt_cmpR op_ne (pe_callB (lenK K) rfl W.z_len PySem.boot_len (pa_cons (pv 1) pa_nil)) pe_int (nomark _)) (pw_or1 (pt_cmpR op_notIn_sign (pv 1) (pe_mcal0 (pv 0) W.cls_Network c_Network_node_letters (hr.mono (by decide))) rfl))))
   (pss_one ps_never)
   pss_nil)
  (pss_one (ps_ret (pe_m1 PySem.F.slot_str_index PySem.F.type_str_index mt_sindex (pe_gstr rfl W.v_NODE_LETTERS) (pv 1))))), ?_⟩
    walk_at "rd0"
    refine ⟨_, 1, rfl, ⟨(by show 1 ≤ sizeLine; decide), rfl⟩, ?_⟩
    walk_at "rd"
    refine iteN (fun c => absurd rfl c) (fun _ => ?_)
    obtain ⟨dx, tn, tl, ts, hX⟩ := hN
    walk_at "rd"
    refine ⟨_, _, _, rfl, hX.ins, rfl, ?_⟩
    refine ⟨x, N, rfl, ⟨dx, tn, tl, ts, hX⟩, ok, fun H1 s1 => ?_⟩
    refine ⟨65 + i, _, rfl, rfl, ?_⟩
    have eb : decide (65 + i ∈ (nset (2 ^ N.rows.length - 1)).cps.toList) = true := n_in _ (by omega) i hi
    rw [eb]
    walk_at "rd"
    refine iteF ?_
    walk_at "rd"
    refine ⟨_, _, i, [], rfl, rfl, n_index i (by omega), ?_⟩
    exact k _ s1
end
end Kn
set_option Elab.async false
set_option linter.all false
set_option maxRecDepth 100000
set_option maxHeartbeats 4000000
namespace Kn
open PySem PySem.Spec PyProof.Rows L2
local macro_rules | `(tactic| walk_at "hp") => `(tactic| first | assumption | exact upd_same | (rw [upd_ne (by assumption)]; walk_at "hp"))
local macro_rules | `(tactic| walk_at "r1") => `(tactic| first
  | with_reducible refine r_seq ?_
  | with_reducible refine r_asg ?_
  | (with_reducible refine r_name ?_; try dsimp only [List.set_cons_succ, List.set_cons_zero])
  | ((with_reducible refine' r_var (v := ?v1) ?h1 ?q1); (case h1 => exact rfl))
  | with_reducible refine r_c ?_
  | with_reducible refine r_op ?_
  | with_reducible refine r_un ?_
  | with_reducible refine r_I0 ?_
  | with_reducible refine r_U ?_
  | with_reducible refine r_ret ?_
  | with_reducible refine r_retN ?_
  | with_reducible refine r_drop ?_
  | with_reducible refine r_next ?_
  | with_reducible refine r_brk ?_
  | with_reducible refine r_cons ?_
  | with_reducible refine r_nil ?_
  | with_reducible refine r_cb ?_
  | with_reducible refine r_ckw ?_
  | with_reducible refine r_test ?_
  | with_reducible refine r_B ?_
  | with_reducible refine r_blN ?_
  | with_reducible refine r_bl ?_
  | with_reducible refine r_ifS ?_
  | with_reducible refine r_if ?_
  | with_reducible refine r_not ?_
  | with_reducible refine r_and ?_
  | with_reducible refine r_or ?_
  | with_reducible refine r_andV ?_
  | with_reducible refine r_andB ?_
  | with_reducible refine r_notV ?_
  | with_reducible refine r_notB ?_
  | with_reducible refine r_call ?_
  | with_reducible refine r_make ?_
  | with_reducible refine r_meth ?_
  | with_reducible refine r_fld ?_
  | with_reducible refine r_tup ?_
  | with_reducible refine r_lst ?_
  | with_reducible refine r_sub ?_
  | with_reducible refine r_sl ?_
  | with_reducible refine r_nop ?_
  | with_reducible refine r_part ?_
  | with_reducible refine r_pti ?_
  | with_reducible refine r_bm ?_
  | with_reducible refine r_m1 ?_
  | with_reducible refine r_m1s ?_
  | with_reducible refine r_dget ?_
  | with_reducible refine r_eq ?_
  | with_reducible refine r_ne ?_
  | with_reducible refine r_eqS ?_
  | with_reducible refine r_neS ?_
  | with_reducible refine r_for ?_
  | with_reducible refine r_lc ?_
  | with_reducible refine r_yes ?_
  | with_reducible refine r_iStr ?_
  | with_reducible refine r_iList ?_
  | with_reducible refine r_iTup ?_
  | with_reducible refine r_iSq ?_
  | with_reducible refine r_iRng ?_
  | with_reducible refine r_iEnumQ ?_
  | with_reducible refine r_iEnumS ?_
  | with_reducible refine r_iEnum ?_
  | with_reducible refine r_iZip ?_
  | with_reducible refine r_tr ?_
  | with_reducible refine r_iSqK ?_
  | with_reducible refine r_fldS ?_
  | with_reducible refine r_dput ?_
  | with_reducible refine r_din ?_
  | with_reducible refine r_gcons ?_
  | with_reducible refine r_gnil ?_
  | with_reducible refine r_gtup upd_same rfl ?_
  | with_reducible refine r_chain ?_
  | with_reducible refine iteT ?_
  | with_reducible refine iteF ?_)
local macro_rules | `(tactic| walk_at "wp") => `(tactic| dsimp only [wipe, List.map_cons, List.map_nil, List.set_cons_succ, List.set_cons_zero])
local macro_rules | `(tactic| walk_at "rd") => `(tactic| repeat (walk_at "r1"))
local macro_rules | `(tactic| walk_at "rd0") => `(tactic| (simp only [L2.start, List.map_cons, List.map_nil, List.length_cons, List.length_nil, Nat.reduceAdd, Nat.reduceSub, List.replicate_succ, List.replicate_zero, List.nil_append, List.cons_append]; repeat (walk_at "r1")))
local macro_rules | `(tactic| walk_at "wp") => `(tactic| dsimp only [wipe, List.map_cons, List.map_nil, List.set_cons_succ, List.set_cons_zero])
/-! ### _law_is_integer, _law_same -/
def spInt : Sp := fun vs H Q _ => ∃ i : Int, vs = [.int i] ∧ Q (.bl true) H
def spSame0 : Sp := fun vs H Q _ => ∃ x : V, vs = [x, x] ∧ ((∃ i : Int, x = .int i) ∨ ∃ b : Bool, x = .bl b) ∧ Q (.bl true) H
def spSame1 : Sp := fun vs H Q _ => ∃ (a b : Addr) (zs : List Int), vs = [.ref a, .ref b] ∧ H a = some (.tup (zs.map V.int)) ∧ H b = some (.tup (zs.map V.int)) ∧ zs.length < 1000 ∧ ∀ H', Same H H' → Q (.bl true) H'
def spSame : Sp := fun vs H Q E => spSame0 vs H Q E ∨ spSame1 vs H Q E
theorem r_isi {K : PySem.W.Frag} {x : V} {n t : String} {b : Bool} {H : Hp} {Q : VK} (ty : TyX K H x (.type t)) (k : kitB t n = some b) (q : Q (.bl b) H) : rIsi K [x, .ty n] H Q :=
  ⟨x, .ty n, .type t, .type n, b, rfl, .ty n, ty, kit_ty k, q⟩
section
variable {P : Program} {w : World} {K : PySem.W.Frag} {mg : Str → Option Value} {base : Heap}
theorem c_int (W : TW K mg) : Cal P w K mg base 1 "_law_is_integer" P__law_is_integer spInt := by
  obtain ⟨fd, F⟩ := W.f__law_is_integer
  refine ⟨_, fd, W.g__law_is_integer, F.kp, F.bindsN (fun _ _ _ _ _ _ us hl => match us, hl with | [_], _ => rfl), okN F sc__law_is_integer (fun vs H Q E h => ?_) (fun cdv A outer s H vs Q E hr h => ?_)⟩
  · obtain ⟨i, rfl, _⟩ := h
    rfl
  · have hu := hu_of hr
    obtain ⟨i, rfl, k⟩ := h
    refine ⟨_, (pss_one (ps_ret (pe_and (pe_callB (isiK K) rfl W.z_isinstance (by decide +kernel) (pa_cons (pv 0) (pa_cons (pe_bltn (v := .ty "int") rfl W.z_int (by decide +kernel) rfl) pa_nil))) (pe_one (pe_not (pe_callB (isiK K) rfl W.z_isinstance (by decide +kernel) (pa_cons (pv 0) (pa_cons (pe_bltn (v := .ty "bool") rfl W.z_bool (by decide +kernel) rfl) pa_nil)))))))), ?_⟩
    walk_at "rd0"
    refine r_isi (b := true) (.base (.int i)) (by decide +kernel) ?_
    walk_at "rd"
    refine r_isi (b := false) (.base (.int i)) (by decide +kernel) ?_
    walk_at "rd"
    exact k
theorem c_same9 (W : TW K mg) : Cal P w K mg base 1 "_law_same" P__law_same spNo := by
  obtain ⟨fd, F⟩ := W.f__law_same
  exact ⟨_, fd, W.g__law_same, F.kp, F.bindsN (fun _ _ _ _ _ _ us hl => match us, hl with | [_, _], _ => rfl), okN (k := 0) F sc__law_same (fun vs H Q E h => h.elim) (fun cdv A outer s H vs Q E hr h => h.elim)⟩
theorem c_same0 (W : TW K mg) : Cal P w K mg base 2 "_law_same" P__law_same spSame0 := by
  have c__law_same := c_same9 (P := P) (w := w) (base := base) W
  have c__law_is_integer := c_int (P := P) (w := w) (base := base) W
  obtain ⟨fd, F⟩ := W.f__law_same
  refine ⟨_, fd, W.g__law_same, F.kp, F.bindsN (fun _ _ _ _ _ _ us hl => match us, hl with | [_, _], _ => rfl), okN F sc__law_same (fun vs H Q E h => ?_) (fun cdv A outer s H vs Q E hr h => ?_)⟩
  · obtain ⟨x, rfl, _⟩ := h
    rfl
  · have hu := hu_of hr
    obtain ⟨x, rfl, hx, k⟩ := h
    refine ⟨_, (pss_cons (ps_if (pt_val (pe_callB (isiK K) rfl W.z_isinstance (by decide +kernel) (pa_cons (pv 1) (pa_cons (pe_bltn (v := .ty "tuple") rfl W.z_tuple (by decide +kernel) rfl) pa_nil))))
   (pss_cons (ps_if (PW.pt (pw_or (pt_not (pt_val (pe_callB (isiK K) rfl W.z_isinstance (by decide +kernel) (pa_cons (pv 0) (pa_cons (pe_bltn (v := .ty "tuple") rfl W.z_tuple (by decide +kernel) rfl) pa_nil))))) (pw_or1 (pt_cmpR op_ne (pe_callB (lenK K) rfl W.z_len PySem.boot_len (pa_cons (pv 0) pa_nil)) (pe_callB (lenK K) rfl W.z_len PySem.boot_len (pa_cons (pv 1) pa_nil)) (nomark _)))))
   (pss_one (ps_ret pe_bl))
   pss_nil)
  (pss_one (ps_ret (pe_callB (allK K) rfl W.z_all (by decide +kernel) (pa_cons (pe_lc (own := [("_law_k", 2)]) rfl sc__law_same.nd (pi_range1 rfl W.z_range (pa_cons (pe_callB (lenK K) rfl W.z_len PySem.boot_len (pa_cons (pv 1) pa_nil)) pa_nil)) (blkOk_by (own := [("_law_k", 2)]) (by first | decide +kernel | kernel_rfl)) (fun _ _ _ _ _ => (pg_name (i := 2) sc__law_same.nd rfl (Or.inl rfl))) (fun _ _ _ _ _ => pts_nil) (fun _ _ _ _ _ => (pe_cal c__law_same (hr.mono (by decide)) (pa_cons (pe_ix (ixQ K) (pv 0) (pv 2) (fun _ _ => rfl)) (pa_cons (pe_ix (ixQ K) (pv 1) (pv 2) (fun _ _ => rfl)) pa_nil))))) pa_nil)))))
   pss_nil)
  (pss_cons (ps_if (pt_val (pe_callB (isiK K) rfl W.z_isinstance (by decide +kernel) (pa_cons (pv 1) (pa_cons (pe_bltn (v := .ty "list") rfl W.z_list (by decide +kernel) rfl) pa_nil))))
   (pss_cons (ps_if (PW.pt (pw_or (pt_not (pt_val (pe_callB (isiK K) rfl W.z_isinstance (by decide +kernel) (pa_cons (pv 0) (pa_cons (pe_bltn (v := .ty "list") rfl W.z_list (by decide +kernel) rfl) pa_nil))))) (pw_or1 (pt_cmpR op_ne (pe_callB (lenK K) rfl W.z_len PySem.boot_len (pa_cons (pv 0) pa_nil)) (pe_callB (lenK K) rfl W.z_len PySem.boot_len (pa_cons (pv 1) pa_nil)) (nomark _)))))
   (pss_one (ps_ret pe_bl))
   pss_nil)
  (pss_one (ps_ret (pe_callB (allK K) rfl W.z_all (by decide +kernel) (pa_cons (pe_lc (own := [("_law_k", 2)]) rfl sc__law_same.nd (pi_range1 rfl W.z_range (pa_cons (pe_callB (lenK K) rfl W.z_len PySem.boot_len (pa_cons (pv 1) pa_nil)) pa_nil)) (blkOk_by (own := [("_law_k", 2)]) (by first | decide +kernel | kernel_rfl)) (fun _ _ _ _ _ => (pg_name (i := 2) sc__law_same.nd rfl (Or.inl rfl))) (fun _ _ _ _ _ => pts_nil) (fun _ _ _ _ _ => (pe_cal c__law_same (hr.mono (by decide)) (pa_cons (pe_ix (ixQ K) (pv 0) (pv 2) (fun _ _ => rfl)) (pa_cons (pe_ix (ixQ K) (pv 1) (pv 2) (fun _ _ => rfl)) pa_nil))))) pa_nil)))))
   pss_nil)
  (pss_cons (ps_if (pt_cmpR op_isN (pv 1) pe_non (nomark _))
   (pss_one (ps_ret (pe_cmpR op_isN (pv 0) pe_non (nomark _))))
   pss_nil)
  (pss_cons (ps_if (pt_val (pe_callB (isiK K) rfl W.z_isinstance (by decide +kernel) (pa_cons (pv 1) (pa_cons (pe_bltn (v := .ty "bool") rfl W.z_bool (by decide +kernel) rfl) pa_nil))))
   (pss_one (ps_ret (pe_and (pe_callB (isiK K) rfl W.z_isinstance (by decide +kernel) (pa_cons (pv 0) (pa_cons (pe_bltn (v := .ty "bool") rfl W.z_bool (by decide +kernel) rfl) pa_nil))) (pe_one (pe_cmpR op_eq (pv 0) (pv 1) (nomark _))))))
   pss_nil)
  (pss_cons (ps_if (pt_val (pe_callB (isiK K) rfl W.z_isinstance (by decide +kernel) (pa_cons (pv 1) (pa_cons (pe_bltn (v := .ty "str") rfl W.z_str (by decide +kernel) rfl) pa_nil))))
   (pss_one (ps_ret (pe_and (pe_callB (isiK K) rfl W.z_isinstance (by decide +kernel) (pa_cons (pv 0) (pa_cons (pe_bltn (v := .ty "str") rfl W.z_str (by decide +kernel) rfl) pa_nil))) (pe_one (pe_cmpR op_eq (pv 0) (pv 1) (nomark _))))))
   pss_nil)
  (pss_one (ps_ret (pe_and (pe_cal c__law_is_integer (hr.mono (by decide)) (pa_cons (pv 0) pa_nil)) (pe_one (pe_cmpR op_eq (pv 0) (pv 1) (nomark _))))))))))), ?_⟩
    rcases hx with ⟨i, rfl⟩ | ⟨b, rfl⟩
    · walk_at "rd0"
      refine r_isi (b := false) (.base (.int i)) (by decide +kernel) ?_
      walk_at "rd"
      refine r_isi (b := false) (.base (.int i)) (by decide +kernel) ?_
      walk_at "rd"
      refine ⟨rfl, ?_⟩
      rw [show decide (V.int i = V.non) = false from rfl]
      walk_at "rd"
      refine r_isi (b := false) (.base (.int i)) (by decide +kernel) ?_
      walk_at "rd"
      refine r_isi (b := false) (.base (.int i)) (by decide +kernel) ?_
      walk_at "rd"
      refine ⟨i, rfl, ?_⟩
      walk_at "rd"
      rw [decide_eq_true rfl]
      exact k
    · walk_at "rd0"
      refine r_isi (b := false) (.base (.bl b)) (by decide +kernel) ?_
      walk_at "rd"
      refine r_isi (b := false) (.base (.bl b)) (by decide +kernel) ?_
      walk_at "rd"
      refine ⟨rfl, ?_⟩
      rw [show decide (V.bl b = V.non) = false from rfl]
      walk_at "rd"
      refine r_isi (b := true) (.base (.bl b)) (by decide +kernel) ?_
      walk_at "rd"
      refine r_isi (b := true) (.base (.bl b)) (by decide +kernel) ?_
      walk_at "rd"
      refine ⟨rfl, ?_⟩
      rw [decide_eq_true rfl]
      exact k
theorem c_same (W : TW K mg) : Cal P w K mg base 3 "_law_same" P__law_same spSame := by
  have c__law_same := c_same0 (P := P) (w := w) (base := base) W
  have c__law_is_integer := c_int (P := P) (w := w) (base := base) W
  obtain ⟨fd, F⟩ := W.f__law_same
  refine ⟨_, fd, W.g__law_same, F.kp, F.bindsN (fun _ _ _ _ _ _ us hl => match us, hl with | [_, _], _ => rfl), okN F sc__law_same (fun vs H Q E h => ?_) (fun cdv A outer s H vs Q E hr h => ?_)⟩
  · rcases h with ⟨x, rfl, _⟩ | ⟨a, b, zs, rfl, _⟩
    · rfl
    · rfl
  · have hu := hu_of hr
    rcases h with ⟨x, rfl, hx, k⟩ | ⟨a, b, zs, rfl, ha, hb, hl, k⟩
    · refine ⟨_, (pss_cons (ps_if (pt_val (pe_callB (isiK K) rfl W.z_isinstance (by decide +kernel) (pa_cons (pv 1) (pa_cons (pe_bltn (v := .ty "tuple") rfl W.z_tuple (by decide +kernel) rfl) pa_nil))))
   (pss_cons (ps_if (PW.pt (pw_or (pt_not (pt_val (pe_callB (isiK K) rfl W.z_isinstance (by decide +kernel) (pa_cons (pv 0) (pa_cons (pe_bltn (v := .ty "tuple") rfl W.z_tuple (by decide +kernel) rfl) pa_nil))))) (pw_or1 (pt_cmpR op_ne (pe_callB (lenK K) rfl W.z_len PySem.boot_len (pa_cons (pv 0) pa_nil)) (pe_callB (lenK K) rfl W.z_len PySem.boot_len (pa_cons (pv 1) pa_nil)) (nomark _)))))
   (pss_one (ps_ret pe_bl))
   pss_nil)
  (pss_one (ps_ret (pe_callB (allK K) rfl W.z_all (by decide +kernel) (pa_cons (pe_lc (own := [("_law_k", 2)]) rfl sc__law_same.nd (pi_range1 rfl W.z_range (pa_cons (pe_callB (lenK K) rfl W.z_len PySem.boot_len (pa_cons (pv 1) pa_nil)) pa_nil)) (blkOk_by (own := [("_law_k", 2)]) (by first | decide +kernel | kernel_rfl)) (fun _ _ _ _ _ => (pg_name (i := 2) sc__law_same.nd rfl (Or.inl rfl))) (fun _ _ _ _ _ => pts_nil) (fun _ _ _ _ _ => (pe_cal c__law_same (hr.mono (by decide)) (pa_cons (pe_ix (ixQ K) (pv 0) (pv 2) (fun _ _ => rfl)) (pa_cons (pe_ix (ixQ K) (pv 1) (pv 2) (fun _ _ => rfl)) pa_nil))))) pa_nil)))))
   pss_nil)
  (pss_cons (ps_if (pt_val (pe_callB (isiK K) rfl W.z_isinstance (by decide +kernel) (pa_cons (pv 1) (pa_cons (pe_bltn (v := .ty "list") rfl W.z_list (by decide +kernel) rfl) pa_nil))))
   (pss_cons (ps_if (PW.pt (pw_or (pt_not (pt_val (pe_callB (isiK K) rfl W.z_isinstance (by decide +kernel) (pa_cons (pv 0) (pa_cons (pe_bltn (v := .ty "list") rfl W.z_list (by decide +kernel) rfl) pa_nil))))) (pw_or1 (pt_cmpR op_ne (pe_callB (lenK K) rfl W.z_len PySem.boot_len (pa_cons (pv 0) pa_nil)) (pe_callB (lenK K) rfl W.z_len PySem.boot_len (pa_cons (pv 1) pa_nil)) (nomark _)))))
   (pss_one (ps_ret pe_bl))
   pss_nil)
  (pss_one (ps_ret (pe_callB (allK K) rfl W.z_all (by decide +kernel) (pa_cons (pe_lc (own := [("_law_k", 2)]) rfl sc__law_same.nd (pi_range1 rfl W.z_range (pa_cons (pe_callB (lenK K) rfl W.z_len PySem.boot_len (pa_cons (pv 1) pa_nil)) pa_nil)) (blkOk_by (own := [("_law_k", 2)]) (by first | decide +kernel | kernel_rfl)) (fun _ _ _ _ _ => (pg_name (i := 2) sc__law_same.nd rfl (Or.inl rfl))) (fun _ _ _ _ _ => pts_nil) (fun _ _ _ _ _ => (pe_cal c__law_same (hr.mono (by decide)) (pa_cons (pe_ix (ixQ K) (pv 0) (pv 2) (fun _ _ => rfl)) (pa_cons (pe_ix (ixQ K) (pv 1) (pv 2) (fun _ _ => rfl)) pa_nil))))) pa_nil)))))
   pss_nil)
  (pss_cons (ps_if (pt_cmpR op_isN (pv 1) pe_non (nomark _))
   (pss_one (ps_ret (pe_cmpR op_isN (pv 0) pe_non (nomark _))))
   pss_nil)
  (pss_cons (ps_if (pt_val (pe_callB (isiK K) rfl W.z_isinstance (by decide +kernel) (pa_cons (pv 1) (pa_cons (pe_bltn (v := .ty "bool") rfl W.z_bool (by decide +kernel) rfl) pa_nil))))
   (pss_one (ps_ret (pe_and (pe_callB (isiK K) rfl W.z_isinstance (by decide +kernel) (pa_cons (pv 0) (pa_cons (pe_bltn (v := .ty "bool") rfl W.z_bool (by decide +kernel) rfl) pa_nil))) (pe_one (pe_cmpR op_eq (pv 0) (pv 1) (nomark _))))))
   pss_nil)
  (pss_cons (ps_if (pt_val (pe_callB (isiK K) rfl W.z_isinstance (by decide +kernel) (pa_cons (pv 1) (pa_cons (pe_bltn (v := .ty "str") rfl W.z_str (by decide +kernel) rfl) pa_nil))))
   (pss_one (ps_ret (pe_and (pe_callB (isiK K) rfl W.z_isinstance (by decide +kernel) (pa_cons (pv 0) (pa_cons (pe_bltn (v := .ty "str") rfl W.z_str (by decide +kernel) rfl) pa_nil))) (pe_one (pe_cmpR op_eq (pv 0) (pv 1) (nomark _))))))
   pss_nil)
  (pss_one (ps_ret (pe_and (pe_cal c__law_is_integer (hr.mono (by decide)) (pa_cons (pv 0) pa_nil)) (pe_one (pe_cmpR op_eq (pv 0) (pv 1) (nomark _))))))))))), ?_⟩
      rcases hx with ⟨i, rfl⟩ | ⟨b, rfl⟩
      · walk_at "rd0"
        refine r_isi (b := false) (.base (.int i)) (by decide +kernel) ?_
        walk_at "rd"
        refine r_isi (b := false) (.base (.int i)) (by decide +kernel) ?_
        walk_at "rd"
        refine ⟨rfl, ?_⟩
        rw [show decide (V.int i = V.non) = false from rfl]
        walk_at "rd"
        refine r_isi (b := false) (.base (.int i)) (by decide +kernel) ?_
        walk_at "rd"
        refine r_isi (b := false) (.base (.int i)) (by decide +kernel) ?_
        walk_at "rd"
        refine ⟨i, rfl, ?_⟩
        walk_at "rd"
        rw [decide_eq_true rfl]
        exact k
      · walk_at "rd0"
        refine r_isi (b := false) (.base (.bl b)) (by decide +kernel) ?_
        walk_at "rd"
        refine r_isi (b := false) (.base (.bl b)) (by decide +kernel) ?_
        walk_at "rd"
        refine ⟨rfl, ?_⟩
        rw [show decide (V.bl b = V.non) = false from rfl]
        walk_at "rd"
        refine r_isi (b := true) (.base (.bl b)) (by decide +kernel) ?_
        walk_at "rd"
        refine r_isi (b := true) (.base (.bl b)) (by decide +kernel) ?_
        walk_at "rd"
        refine ⟨rfl, ?_⟩
        rw [decide_eq_true rfl]
        exact k
    · refine ⟨_, (pss_cons (ps_if (pt_val (pe_callB (isiK K) rfl W.z_isinstance (by decide +kernel) (pa_cons (pv 1) (pa_cons (pe_bltn (v := .ty "tuple") rfl W.z_tuple (by decide +kernel) rfl) pa_nil))))
   (pss_cons (ps_if (PW.pt (pw_or (pt_not (pt_val (pe_callB (isiK K) rfl W.z_isinstance (by decide +kernel) (pa_cons (pv 0) (pa_cons (pe_bltn (v := .ty "tuple") rfl W.z_tuple (by decide +kernel) rfl) pa_nil))))) (pw_or1 (pt_cmpR op_ne (pe_callB (lenK K) rfl W.z_len PySem.boot_len (pa_cons (pv 0) pa_nil)) (pe_callB (lenK K) rfl W.z_len PySem.boot_len (pa_cons (pv 1) pa_nil)) (nomark _)))))
   (pss_one (ps_ret pe_bl))
   pss_nil)
  (pss_one (ps_ret (pe_callB (allK K) rfl W.z_all (by decide +kernel) (pa_cons (pe_lc (own := [("_law_k", 2)]) rfl sc__law_same.nd (pi_range1 rfl W.z_range (pa_cons (pe_callB (lenK K) rfl W.z_len PySem.boot_len (pa_cons (pv 1) pa_nil)) pa_nil)) (blkOk_by (own := [("_law_k", 2)]) (by first | decide +kernel | kernel_rfl)) (fun _ _ _ _ _ => (pg_name (i := 2) sc__law_same.nd rfl (Or.inl rfl))) (fun _ _ _ _ _ => pts_nil) (fun _ _ _ _ _ => (pe_cal c__law_same (hr.mono (by decide)) (pa_cons (pe_ix (ixQ K) (pv 0) (pv 2) (fun _ _ => rfl)) (pa_cons (pe_ix (ixQ K) (pv 1) (pv 2) (fun _ _ => rfl)) pa_nil))))) pa_nil)))))
   pss_nil)
  (pss_cons (ps_if (pt_val (pe_callB (isiK K) rfl W.z_isinstance (by decide +kernel) (pa_cons (pv 1) (pa_cons (pe_bltn (v := .ty "list") rfl W.z_list (by decide +kernel) rfl) pa_nil))))
   (pss_cons (ps_if (PW.pt (pw_or (pt_not (pt_val (pe_callB (isiK K) rfl W.z_isinstance (by decide +kernel) (pa_cons (pv 0) (pa_cons (pe_bltn (v := .ty "list") rfl W.z_list (by decide +kernel) rfl) pa_nil))))) (pw_or1 (pt_cmpR op_ne (pe_callB (lenK K) rfl W.z_len PySem.boot_len (pa_cons (pv 0) pa_nil)) (pe_callB (lenK K) rfl W.z_len PySem.boot_len (pa_cons (pv 1) pa_nil)) (nomark _)))))
   (pss_one (ps_ret pe_bl))
   pss_nil)
  (pss_one (ps_ret (pe_callB (allK K) rfl W.z_all (by decide +kernel) (pa_cons (pe_lc (own := [("_law_k", 2)]) rfl sc__law_same.nd (pi_range1 rfl W.z_range (pa_cons (pe_callB (lenK K) rfl W.z_len PySem.boot_len (pa_cons (pv 1) pa_nil)) pa_nil)) (blkOk_by (own := [("_law_k", 2)]) (by first | decide +kernel | kernel_rfl)) (fun _ _ _ _ _ => (pg_name (i := 2) sc__law_same.nd rfl (Or.inl rfl))) (fun _ _ _ _ _ => pts_nil) (fun _ _ _ _ _ => (pe_cal c__law_same (hr.mono (by decide)) (pa_cons (pe_ix (ixQ K) (pv 0) (pv 2) (fun _ _ => rfl)) (pa_cons (pe_ix (ixQ K) (pv 1) (pv 2) (fun _ _ => rfl)) pa_nil))))) pa_nil)))))
   pss_nil)
  (pss_cons (ps_if (pt_cmpR op_isN (pv 1) pe_non (nomark _))
   (pss_one (ps_ret (pe_cmpR op_isN (pv 0) pe_non (nomark _))))
   pss_nil)
  (pss_cons (ps_if (pt_val (pe_callB (isiK K) rfl W.z_isinstance (by decide +kernel) (pa_cons (pv 1) (pa_cons (pe_bltn (v := .ty "bool") rfl W.z_bool (by decide +kernel) rfl) pa_nil))))
   (pss_one (ps_ret (pe_and (pe_callB (isiK K) rfl W.z_isinstance (by decide +kernel) (pa_cons (pv 0) (pa_cons (pe_bltn (v := .ty "bool") rfl W.z_bool (by decide +kernel) rfl) pa_nil))) (pe_one (pe_cmpR op_eq (pv 0) (pv 1) (nomark _))))))
   pss_nil)
  (pss_cons (ps_if (pt_val (pe_callB (isiK K) rfl W.z_isinstance (by decide +kernel) (pa_cons (pv 1) (pa_cons (pe_bltn (v := .ty "str") rfl W.z_str (by decide +kernel) rfl) pa_nil))))
   (pss_one (ps_ret (pe_and (pe_callB (isiK K) rfl W.z_isinstance (by decide +kernel) (pa_cons (pv 0) (pa_cons (pe_bltn (v := .ty "str") rfl W.z_str (by decide +kernel) rfl) pa_nil))) (pe_one (pe_cmpR op_eq (pv 0) (pv 1) (nomark _))))))
   pss_nil)
  (pss_one (ps_ret (pe_and (pe_cal c__law_is_integer (hr.mono (by decide)) (pa_cons (pv 0) pa_nil)) (pe_one (pe_cmpR op_eq (pv 0) (pv 1) (nomark _))))))))))), ?_⟩
      walk_at "rd0"
      refine r_isi (b := true) (.base (.tup hb)) (by decide +kernel) ?_
      walk_at "rd"
      refine r_isi (b := true) (.base (.tup ha)) (by decide +kernel) ?_
      walk_at "rd"
      refine iteF ?_
      walk_at "rd"
      refine ⟨_, _, rfl, .inr ⟨_, SqT.of ha, by rw [List.length_map]⟩, ?_⟩
      walk_at "rd"
      refine ⟨_, _, rfl, .inr ⟨_, SqT.of hb, by rw [List.length_map]⟩, ?_⟩
      walk_at "rd"
      refine iteN (fun c => absurd rfl c) (fun _ => ?_)
      walk_at "rd"
      refine ⟨_, _, rfl, .inr ⟨_, SqT.of hb, by rw [List.length_map]⟩, ?_⟩
      walk_at "rd"
      refine ⟨_, rfl, by omega, by omega, fun D hD => lc_all (walk_range (lo := 0) (n := ((zs.length : Nat) : Int).toNat)) ySame_fn (by omega) hD (fun i => .bl true) (fun _ _ => trivial) ?_ fun H1 s1 e1 => ?_⟩
      · rintro i z Hc H' R E hi s ⟨rfl, rfl⟩ hR
        have hi' : i < zs.length := by omega
        walk_at "wp"
        walk_at "rd"
        refine ⟨rfl, ?_⟩
        walk_at "rd"
        refine r_ixQ (b := true) (v := .int zs[i]) (s _ _ ha) i (by omega) (by rw [List.getElem?_map, List.getElem?_eq_getElem hi']; rfl) ?_
        walk_at "rd"
        refine r_ixQ (b := true) (v := .int zs[i]) (s _ _ hb) i (by omega) (by rw [List.getElem?_map, List.getElem?_eq_getElem hi']; rfl) ?_
        walk_at "rd"
        exact ⟨_, rfl, .inl ⟨_, rfl⟩, hR _ (Same.refl _)⟩
      · walk_at "rd"
        rw [all_true] at e1
        refine ⟨D, _, rfl, SqL.of e1, ?_⟩
        rw [all_rep]
        exact k _ s1
end
end Kn
set_option Elab.async false
set_option linter.all false
set_option maxRecDepth 100000
set_option maxHeartbeats 4000000
namespace Kn
open PySem PySem.Spec PyProof.Rows L2
theorem kn_takes0 {X : Cx} : Takes X (fun _ _ _ _ => False) := fun _ _ x => by
  obtain ⟨_, _, _, _, _, _, _, _, _, _, _, _, _, _, _, _, z⟩ := x
  exact z.elim
/-! ### a course -/
abbrev CC (K : PySem.W.Frag) : Addr := He.ga K "Course"
structure Nd where
  a : Addr
  s : Addr
  l : Addr
  ms : List Nat
  rows : List Nat
structure Co where
  c : Addr
  w : Addr
  dx : Addr
  ah : Addr
  sp : Addr
  au : Addr
  nds : List Nd
  used : List Nat
def coF (C : Co) : List (Str × V) := [("network", .ref C.w), ("has", .ref C.ah), ("spans", .ref C.sp), ("used", .ref C.au)]
def usedK (us : List Nat) : List (Key × V) := us.map fun l : Nat => (.inl (l : Int), .bl true)
theorem coF_n (C : Co) : (coF C).lookup (Str.ofString "network") = some (V.ref C.w) := rfl
theorem coF_h (C : Co) : (coF C).lookup (Str.ofString "has") = some (V.ref C.ah) := rfl
theorem coF_s (C : Co) : (coF C).lookup (Str.ofString "spans") = some (V.ref C.sp) := rfl
theorem coF_u (C : Co) : (coF C).lookup (Str.ofString "used") = some (V.ref C.au) := rfl
structure NdOK (K : PySem.W.Frag) (H : Hp) (n : Nd) : Prop where
  a : H n.a = some (.lst (n.ms.map iv))
  s : SpanAt K H n.s n.l n.rows
  rows : Rows n.rows n.ms
  lt : ∀ m ∈ n.ms, m < 16
structure CoOK (K : PySem.W.Frag) (H : Hp) (C : Co) (N : Net) : Prop where
  ins : H C.c = some (.ins (CC K) C.dx (coF C))
  has : H C.ah = some (.lst (C.nds.map fun n => .ref n.a))
  sps : H C.sp = some (.lst (C.nds.map fun n => .ref n.s))
  us : H C.au = some (.dK (usedK C.used))
  node : ∀ (i : Nat) (n : Nd), C.nds[i]? = some n → NdOK K H n
  len : C.nds.length = N.rows.length
  pos : 0 < C.nds.length
  dist : ∀ (i j : Nat) (n m : Nd), C.nds[i]? = some n → C.nds[j]? = some m → i ≠ j → n.a ≠ m.a ∧ n.s ≠ m.s ∧ n.l ≠ m.l
  cross : ∀ (i j : Nat) (n m : Nd), C.nds[i]? = some n → C.nds[j]? = some m → n.a ≠ m.l
  nw : NwAt K H C.w N
  mlen : ∀ (i : Nat) (n : Nd), C.nds[i]? = some n → n.ms.length ≤ 4 + C.used.length
def hs (C : Co) : List (List Nat) := C.nds.map (·.ms)
def touch (C : Co) (x : Addr) : Prop := x = C.au ∨ ∃ n ∈ C.nds, x = n.a ∨ x = n.s ∨ x = n.l
structure CoStep (H H' : Hp) (C C' : Co) : Prop where
  keep : ∀ b o, ¬ touch C b → H b = some o → H' b = some o
  dom : ∀ b, H' b = none → H b = none
  newt : ∀ x, touch C' x → touch C x ∨ H x = none
structure Own (B H : Hp) (C : Co) : Prop where
  same : Same B H
  free : ∀ x, touch C x → B x = none
theorem Own.step {B H H' : Hp} {C C' : Co} (o : Own B H C) (s : CoStep H H' C C') : Own B H' C' :=
  ⟨fun b u e => s.keep b u (fun t => by rw [o.free b t] at e; cases e) (o.same b u e), fun x t => by
    rcases s.newt x t with t | t
    · exact o.free x t
    · exact o.same.free t⟩
theorem Own.more {B H H' : Hp} {C : Co} (o : Own B H C) (s : Same H H') : Own B H' C := ⟨o.same.trans s, o.free⟩
theorem NdOK.same {K : PySem.W.Frag} {H H' : Hp} {n : Nd} (h : NdOK K H n) (s : Same H H') : NdOK K H' n := ⟨s _ _ h.a, h.s.same s, h.rows, h.lt⟩
theorem CoOK.same {K : PySem.W.Frag} {H H' : Hp} {C : Co} {N : Net} (h : CoOK K H C N) (s : Same H H') : CoOK K H' C N :=
  ⟨s _ _ h.ins, s _ _ h.has, s _ _ h.sps, s _ _ h.us, fun i n e => (h.node i n e).same s, h.len, h.pos, h.dist, h.cross, h.nw.same s, h.mlen⟩
theorem refs_ints {α : Type} {f : α → Addr} {l : List α} {ms : List Nat} (hl : 0 < l.length) : HO.lst (l.map fun x => V.ref (f x)) ≠ HO.lst (ms.map iv) := by
  intro e
  cases l with
  | nil => cases hl
  | cons a r =>
    cases ms with
    | nil => cases e
    | cons b t =>
      have e1 := List.cons.inj (HO.lst.inj e)
      cases e1.1
theorem lst_dK {xs : List V} {k : List (Key × V)} : HO.lst xs ≠ HO.dK k := by intro e; cases e
theorem lst_ins {xs : List V} {C dx : Addr} {fs : List (Str × V)} : HO.lst xs ≠ HO.ins C dx fs := by intro e; cases e
theorem dK_ins {k : List (Key × V)} {C dx : Addr} {fs : List (Str × V)} : HO.dK k ≠ HO.ins C dx fs := by intro e; cases e
theorem tup_lst {ys xs : List V} : HO.tup ys ≠ HO.lst xs := by intro e; cases e
theorem tup_dK {xs : List V} {k : List (Key × V)} : HO.tup xs ≠ HO.dK k := by intro e; cases e
theorem tup_ins {xs : List V} {C dx : Addr} {fs : List (Str × V)} : HO.tup xs ≠ HO.ins C dx fs := by intro e; cases e
theorem ins_ins {C C' dx dx' : Addr} {fs fs' : List (Str × V)} (h : fs.length ≠ fs'.length) : HO.ins C dx fs ≠ HO.ins C' dx' fs' := fun e => h (by cases e; rfl)
/-- what is not a list of ints, no dict, no Span: no step touches it -/
def Aside (K : PySem.W.Frag) : HO → Prop
  | .lst (.ref _ :: _) => True
  | .tup _ => True
  | .ins _ _ fs => fs.length ≠ 1
  | _ => False
theorem CoOK.aside {K : PySem.W.Frag} {H : Hp} {C : Co} {N : Net} (h : CoOK K H C N) {b : Addr} {o : HO} (e : H b = some o) (ha : Aside K o) : ¬ touch C b := by
  rintro (z | ⟨n, hn, z | z | z⟩)
  · subst z
    rw [h.us] at e
    cases e
    exact ha
  all_goals
    obtain ⟨i, hi, en⟩ := List.getElem_of_mem hn
    have hk := h.node i n (by rw [← en]; exact List.getElem?_eq_getElem hi)
  · subst z
    rw [hk.a] at e
    cases e
    generalize n.ms = ms at ha
    cases ms <;> exact ha
  · subst z
    obtain ⟨dx, q⟩ := hk.s.ins
    rw [q] at e
    cases e
    exact ha rfl
  · subst z
    rw [hk.s.lst] at e
    cases e
    generalize n.rows = ms at ha
    cases ms <;> exact ha
theorem NwAt.kx {K : PySem.W.Frag} {H H' : Hp} {w : Addr} {N : Net} (h : NwAt K H w N) (k : ∀ b o, Aside K o → H b = some o → H' b = some o) : NwAt K H' w N := by
  obtain ⟨dx, tn, tl, ts, q⟩ := h
  exact ⟨dx, tn, tl, ts, k _ _ (by show 3 ≠ 1; decide) q.ins, k _ _ trivial q.nodes, q.eq, fun t ht => k _ _ trivial (q.cells t ht), k _ _ trivial q.links⟩
theorem putK_used {us : List Nat} {l : Nat} (h : l ∉ us) : putK (usedK us) (.inl (l : Int)) (.bl true) = usedK (us ++ [l]) := by
  unfold putK usedK
  rw [if_neg, List.map_append]
  · rfl
  · intro e
    obtain ⟨x, hx, q⟩ := List.any_eq_true.mp e
    obtain ⟨y, hy, rfl⟩ := List.mem_map.mp hx
    have q := of_decide_eq_true q
    have q : ((y : Nat) : Int) = l := Sum.inl.inj q
    exact h ((by omega : y = l) ▸ hy)
theorem valV_used {us : List Nat} {l : Nat} : (valV (usedK us) (.inl (l : Int))).isSome = decide (l ∈ us) := by
  induction us with
  | nil => rfl
  | cons a r ih =>
    show (valV ((.inl (a : Int), .bl true) :: usedK r) _).isSome = _
    by_cases c : a = l
    · subst c
      rw [valV_pos rfl]
      simp
    · rw [valV_neg (fun e => c (by have e : ((a : Nat) : Int) = l := Sum.inl.inj e; omega)), ih]
      have : l ≠ a := fun z => c z.symm
      simp [this]
/-- a step is done -/
def Co.did (C : Co) (r : Nat) (n' : Nd) (l : Nat) : Co := { C with nds := C.nds.set r n', used := C.used ++ [l] }
theorem set_get {α : Type} {l : List α} {r i : Nat} {x y : α} (h : (l.set r x)[i]? = some y) : (i = r ∧ y = x ∧ r < l.length) ∨ (i ≠ r ∧ l[i]? = some y) := by
  rw [List.getElem?_set] at h
  by_cases c : r = i
  · rw [if_pos c] at h
    split at h
    · cases h
      exact .inl ⟨c.symm, rfl, by assumption⟩
    · cases h
  · rw [if_neg c] at h
    exact .inr ⟨fun z => c z.symm, h⟩
theorem CoOK.did {K : PySem.W.Frag} {H H4 : Hp} {C : Co} {N : Net} (h : CoOK K H C N) {r m l : Nat} {n : Nd} (hn : C.nds[r]? = some n) (hm : m < 16) {l' : Addr} {rows' : List Nat}
    (k4 : ∀ b o, b ≠ n.s → b ≠ n.l → (upd (upd H C.au (.dK (usedK (C.used ++ [l])))) n.a (.lst ((n.ms ++ [m]).map iv))) b = some o → H4 b = some o)
    (d4 : ∀ b, H4 b = none → (upd (upd H C.au (.dK (usedK (C.used ++ [l])))) n.a (.lst ((n.ms ++ [m]).map iv))) b = none)
    (hS : SpanAt K H4 n.s l' rows') (hR : Rows rows' (n.ms ++ [m])) (hl : l' = n.l ∨ H l' = none) :
    CoOK K H4 (C.did r ⟨n.a, n.s, l', n.ms ++ [m], rows'⟩ l) N ∧ CoStep H H4 C (C.did r ⟨n.a, n.s, l', n.ms ++ [m], rows'⟩ l) := by
  have hk := h.node r n hn
  have hrl : r < C.nds.length := (List.getElem?_eq_some_iff.mp hn).1
  obtain ⟨dxs, hsi⟩ := hk.s.ins
  have kk : ∀ b o, b ≠ C.au → b ≠ n.a → b ≠ n.s → b ≠ n.l → H b = some o → H4 b = some o := fun b o h1 h2 h3 h4 e => k4 b o h3 h4 (by rw [upd_ne h2, upd_ne h1]; exact e)
  have hal : n.a ≠ n.l := h.cross r r n n hn hn
  have has : n.a ≠ n.s := ne_of hk.a hsi lst_ins
  have hau : C.au ≠ n.a := fun z => by have := h.us; rw [z, hk.a] at this; cases this
  have hus : C.au ≠ n.s := ne_of h.us hsi dK_ins
  have hul : C.au ≠ n.l := ne_of h.us hk.s.lst (fun e => lst_dK e.symm)
  have eu : H4 C.au = some (.dK (usedK (C.used ++ [l]))) := k4 _ _ hus hul (by rw [upd_ne hau, upd_same])
  have ea : H4 n.a = some (.lst ((n.ms ++ [m]).map iv)) := k4 _ _ has hal (by rw [upd_same])
  have tn : touch C n.a := .inr ⟨n, List.mem_of_getElem? hn, .inl rfl⟩
  have ts : touch C n.s := .inr ⟨n, List.mem_of_getElem? hn, .inr (.inl rfl)⟩
  have tl : touch C n.l := .inr ⟨n, List.mem_of_getElem? hn, .inr (.inr rfl)⟩
  have kt : ∀ b o, ¬ touch C b → H b = some o → H4 b = some o := fun b o ht e => kk b o (fun z => ht (.inl z)) (fun z => ht (z ▸ tn)) (fun z => ht (z ▸ ts)) (fun z => ht (z ▸ tl)) e
  have ka : ∀ b o, Aside K o → H b = some o → H4 b = some o := fun b o ha e => kt b o (h.aside e ha) e
  have refsA : ∀ {f : Nd → Addr}, Aside K (.lst (C.nds.map fun n => .ref (f n))) := fun {f} => by
    have := h.pos
    generalize C.nds = nds at this
    cases nds with
    | nil => cases this
    | cons a r => trivial
  have mapa : (C.nds.set r ⟨n.a, n.s, l', n.ms ++ [m], rows'⟩).map (fun n => V.ref n.a) = C.nds.map fun n => V.ref n.a := by
    refine List.ext_getElem? fun i => ?_
    rw [List.getElem?_map, List.getElem?_map, List.getElem?_set]
    by_cases c : r = i
    · rw [if_pos c, if_pos hrl, ← c, hn]; rfl
    · rw [if_neg c]
  have maps : (C.nds.set r ⟨n.a, n.s, l', n.ms ++ [m], rows'⟩).map (fun n => V.ref n.s) = C.nds.map fun n => V.ref n.s := by
    refine List.ext_getElem? fun i => ?_
    rw [List.getElem?_map, List.getElem?_map, List.getElem?_set]
    by_cases c : r = i
    · rw [if_pos c, if_pos hrl, ← c, hn]; rfl
    · rw [if_neg c]
  refine ⟨⟨ka _ _ (by show 4 ≠ 1; decide) h.ins, ?_, ?_, eu, fun i x e => ?_, ?_, ?_, fun i j x y ex ey hij => ?_, fun i j x y ex ey => ?_, h.nw.kx ka, fun i x e => ?_⟩, ⟨kt, fun b e => ?_, fun x t => ?_⟩⟩
  · show H4 C.ah = some (.lst ((C.nds.set r _).map _))
    rw [mapa]
    exact ka _ _ refsA h.has
  · show H4 C.sp = some (.lst ((C.nds.set r _).map _))
    rw [maps]
    exact ka _ _ refsA h.sps
  · rcases set_get e with ⟨_, rfl, _⟩ | ⟨ne, e⟩
    · refine ⟨ea, hS, hR, fun x hx => ?_⟩
      rcases List.mem_append.mp hx with q | q
      · exact hk.lt x q
      · cases List.mem_singleton.mp q
        exact hm
    · have hx := h.node i x e
      obtain ⟨d1, d2, d3⟩ := h.dist i r x n e hn ne
      obtain ⟨dxx, hxi⟩ := hx.s.ins
      have q1 : x.a ≠ n.l := h.cross i r x n e hn
      have q2 : n.a ≠ x.l := h.cross r i n x hn e
      refine ⟨kk _ _ (ne_of hx.a h.us lst_dK) d1 (ne_of hx.a hsi lst_ins) q1 hx.a, ⟨⟨dxx, kk _ _ (ne_of hxi h.us (fun e => dK_ins e.symm)) (ne_of hxi hk.a (fun e => lst_ins e.symm)) d2 (ne_of hxi hk.s.lst (fun e => lst_ins e.symm)) hxi⟩, kk _ _ (ne_of hx.s.lst h.us lst_dK) (fun z => q2 z.symm) (ne_of hx.s.lst hsi lst_ins) d3 hx.s.lst⟩, hx.rows, hx.lt⟩
  · show (C.nds.set r _).length = _
    rw [List.length_set]; exact h.len
  · show 0 < (C.nds.set r _).length
    rw [List.length_set]; exact h.pos
  · have hl' : ∀ (i : Nat) (x : Nd), i ≠ r → C.nds[i]? = some x → l' ≠ x.l := fun i x ne e => by
      rcases hl with rfl | hl
      · exact fun z => (h.dist i r x n e hn ne).2.2 z.symm
      · exact (ne_of_none (h.node i x e).s.lst hl).symm
    rcases set_get ex with ⟨rfl, rfl, _⟩ | ⟨ne, ex2⟩ <;> rcases set_get ey with ⟨rfl, rfl, _⟩ | ⟨ne2, ey2⟩
    · exact absurd rfl hij
    · obtain ⟨d1, d2, d3⟩ := h.dist _ _ n y hn ey2 (fun z => ne2 z.symm)
      exact ⟨d1, d2, hl' j y ne2 ey2⟩
    · obtain ⟨d1, d2, d3⟩ := h.dist _ _ x n ex2 hn ne
      exact ⟨d1, d2, fun z => hl' i x ne ex2 z.symm⟩
    · exact h.dist i j x y ex2 ey2 hij
  · rcases set_get ex with ⟨rfl, rfl, _⟩ | ⟨ne, ex2⟩ <;> rcases set_get ey with ⟨rfl, rfl, _⟩ | ⟨ne2, ey2⟩
    · rcases hl with rfl | hl
      · exact hal
      · exact ne_of_none hk.a hl
    · exact h.cross _ _ n y hn ey2
    · rcases hl with rfl | hl
      · exact h.cross _ _ x n ex2 hn
      · exact ne_of_none (h.node i x ex2).a hl
    · exact h.cross _ _ x y ex2 ey2
  · show x.ms.length ≤ 4 + (C.used ++ [l]).length
    rw [List.length_append]
    rcases set_get e with ⟨_, rfl, _⟩ | ⟨ne, e⟩
    · have := h.mlen r n hn
      show (n.ms ++ [m]).length ≤ _ + (_ + 1)
      rw [List.length_append]
      show _ + 1 ≤ _
      omega
    · have := h.mlen i x e
      show _ ≤ _ + (_ + 1)
      omega
  · have e := d4 b e
    by_cases z : b = n.a
    · rw [z, upd_same] at e; cases e
    · rw [upd_ne z] at e
      by_cases z2 : b = C.au
      · rw [z2, upd_same] at e; cases e
      · rw [upd_ne z2] at e; exact e
  · rcases t with z | ⟨y, hy, z⟩
    · exact .inl (.inl z)
    · obtain ⟨i, hi, ey⟩ := List.getElem_of_mem hy
      have ey : (C.nds.set r ⟨n.a, n.s, l', n.ms ++ [m], rows'⟩)[i]? = some y := by rw [← ey]; exact List.getElem?_eq_getElem hi
      rcases set_get ey with ⟨_, rfl, _⟩ | ⟨ne, ey⟩
      · rcases z with rfl | rfl | rfl
        · exact .inl tn
        · exact .inl ts
        · rcases hl with hl | hl
          · exact .inl (hl ▸ tl)
          · exact .inr hl
      · exact .inl (.inr ⟨y, List.mem_of_getElem? ey, z⟩)
end Kn
set_option Elab.async false
set_option linter.all false
set_option maxRecDepth 100000
set_option maxHeartbeats 4000000
namespace Kn
open PySem PySem.Spec PyProof.Rows L2
local macro_rules | `(tactic| walk_at "hp") => `(tactic| first | assumption | exact upd_same | (rw [upd_ne (by assumption)]; walk_at "hp"))
local macro_rules | `(tactic| walk_at "r1") => `(tactic| first
  | with_reducible refine r_seq ?_
  | with_reducible refine r_asg ?_
  | (with_reducible refine r_name ?_; try dsimp only [List.set_cons_succ, List.set_cons_zero])
  | ((with_reducible refine' r_var (v := ?v1) ?h1 ?q1); (case h1 => exact rfl))
  | with_reducible refine r_c ?_
  | with_reducible refine r_op ?_
  | with_reducible refine r_un ?_
  | with_reducible refine r_I0 ?_
  | with_reducible refine r_U ?_
  | with_reducible refine r_ret ?_
  | with_reducible refine r_retN ?_
  | with_reducible refine r_drop ?_
  | with_reducible refine r_next ?_
  | with_reducible refine r_brk ?_
  | with_reducible refine r_cons ?_
  | with_reducible refine r_nil ?_
  | with_reducible refine r_cb ?_
  | with_reducible refine r_ckw ?_
  | with_reducible refine r_test ?_
  | with_reducible refine r_B ?_
  | with_reducible refine r_blN ?_
  | with_reducible refine r_bl ?_
  | with_reducible refine r_ifS ?_
  | with_reducible refine r_if ?_
  | with_reducible refine r_not ?_
  | with_reducible refine r_and ?_
  | with_reducible refine r_or ?_
  | with_reducible refine r_andV ?_
  | with_reducible refine r_andB ?_
  | with_reducible refine r_notV ?_
  | with_reducible refine r_notB ?_
  | with_reducible refine r_call ?_
  | with_reducible refine r_make ?_
  | with_reducible refine r_meth ?_
  | with_reducible refine r_fld ?_
  | with_reducible refine r_tup ?_
  | with_reducible refine r_lst ?_
  | with_reducible refine r_sub ?_
  | with_reducible refine r_sl ?_
  | with_reducible refine r_nop ?_
  | with_reducible refine r_part ?_
  | with_reducible refine r_pti ?_
  | with_reducible refine r_bm ?_
  | with_reducible refine r_m1 ?_
  | with_reducible refine r_m1s ?_
  | with_reducible refine r_dget ?_
  | with_reducible refine r_eq ?_
  | with_reducible refine r_ne ?_
  | with_reducible refine r_eqS ?_
  | with_reducible refine r_neS ?_
  | with_reducible refine r_for ?_
  | with_reducible refine r_lc ?_
  | with_reducible refine r_yes ?_
  | with_reducible refine r_iStr ?_
  | with_reducible refine r_iList ?_
  | with_reducible refine r_iTup ?_
  | with_reducible refine r_iSq ?_
  | with_reducible refine r_iRng ?_
  | with_reducible refine r_iEnumQ ?_
  | with_reducible refine r_iEnumS ?_
  | with_reducible refine r_iEnum ?_
  | with_reducible refine r_iZip ?_
  | with_reducible refine r_tr ?_
  | with_reducible refine r_iSqK ?_
  | with_reducible refine r_fldS ?_
  | with_reducible refine r_dput ?_
  | with_reducible refine r_din ?_
  | with_reducible refine r_gcons ?_
  | with_reducible refine r_gnil ?_
  | with_reducible refine r_gtup upd_same rfl ?_
  | with_reducible refine r_chain ?_
  | with_reducible refine iteT ?_
  | with_reducible refine iteF ?_)
local macro_rules | `(tactic| walk_at "wp") => `(tactic| dsimp only [wipe, List.map_cons, List.map_nil, List.set_cons_succ, List.set_cons_zero])
local macro_rules | `(tactic| walk_at "rd") => `(tactic| repeat (walk_at "r1"))
local macro_rules | `(tactic| walk_at "rd0") => `(tactic| (simp only [L2.start, List.map_cons, List.map_nil, List.length_cons, List.length_nil, Nat.reduceAdd, Nat.reduceSub, List.replicate_succ, List.replicate_zero, List.nil_append, List.cons_append]; repeat (walk_at "r1")))
local macro_rules | `(tactic| walk_at "wp") => `(tactic| dsimp only [wipe, List.map_cons, List.map_nil, List.set_cons_succ, List.set_cons_zero])
/-! ### Course -/
theorem mem_ltv : ∀ {ms : List Nat} {v x : Nat}, (∀ m ∈ ms, m < 2 ^ v) → mem ms x = true → x < 2 ^ v
  | [], v, x, _, h => by have e : x = 0 := by simpa [mem] using h
                         rw [e]; exact Nat.one_le_two_pow
  | m :: ms, v, x, hm, h => by
    have h1 : ∀ k ∈ ms, k < 2 ^ v := fun k hk => hm k (List.mem_cons_of_mem _ hk)
    rw [mem_cons, Bool.or_eq_true] at h
    rcases h with h | h
    · exact mem_ltv h1 h
    · have a := mem_ltv h1 h
      have b := hm m List.mem_cons_self
      have := Nat.xor_lt_two_pow (n := v) (x := x ^^^ m) (y := m) a b
      rwa [xor_self_cancel] at this
theorem nodup_ix {α : Type} {f : Nd → α} {us : List Nd} (h : (us.map f).Nodup) {i j : Nat} {n m : Nd} (hi : us[i]? = some n) (hj : us[j]? = some m) (ne : i ≠ j) : f n ≠ f m := by
  have h1 : (us.map f)[i]? = some (f n) := by rw [List.getElem?_map, hi]; rfl
  have h2 : (us.map f)[j]? = some (f m) := by rw [List.getElem?_map, hj]; rfl
  obtain ⟨l1, e1⟩ := List.getElem?_eq_some_iff.mp h1
  obtain ⟨l2, e2⟩ := List.getElem?_eq_some_iff.mp h2
  rw [← e1, ← e2]
  rw [List.nodup_iff_pairwise_ne, List.pairwise_iff_getElem] at h
  rcases Nat.lt_or_gt_of_ne ne with c | c
  · exact h i j l1 l2 c
  · exact fun z => h j i l2 l1 c z.symm
abbrev stepV (l m : Nat) : List V := [iN l, tv m]
def spCo (K : PySem.W.Frag) : Sp := fun vs H Q _ => ∃ (c dx w : Addr) (N : Net), vs = [.ref c, .ref w] ∧ H c = some (.ins (CC K) dx []) ∧ NwAt K H w N ∧ NetOK N ∧
  ∀ C H', C.c = c → C.used = [] → hs C = N.rows → CoOK K H' C N → (∀ b o, b ≠ c → H b = some o → H' b = some o) → (∀ b, H' b = none → H b = none) → (∀ x, touch C x → H x = none) → Q .non H'
def spEnds (K : PySem.W.Frag) : Sp := fun vs H Q _ => ∃ (C : Co) (N : Net) (l : Nat), vs = [.ref C.c, iN l] ∧ CoOK K H C N ∧ NetOK N ∧ l < N.links.length ∧
  ∀ T H', Same H H' → H T = none → H' T = some (.tup [iN (N.links.getD l (0, 0)).1, iN (N.links.getD l (0, 0)).2]) → Q (.ref T) H'
def spCMask (K : PySem.W.Frag) : Sp := fun vs H Q _ => ∃ (C : Co) (N : Net) (m : Nat), vs = [.ref C.c, tv m] ∧ CoOK K H C N ∧ NetOK N ∧ m < 2 ^ N.v ∧ ∀ H', Same H H' → Q (iv m) H'
def spCan (K : PySem.W.Frag) : Sp := fun vs H Q _ => ∃ (C : Co) (N : Net) (st : Addr) (l m : Nat), vs = [.ref C.c, .ref st] ∧ CoOK K H C N ∧ NetOK N ∧ H st = some (.tup (stepV l m)) ∧ l < N.links.length ∧ m < 2 ^ N.v ∧
  ∀ H', Same H H' → Q (.bl (!decide (l ∈ C.used) && mem ((hs C).getD (N.links.getD l (0, 0)).1 []) m)) H'
def spDo (K : PySem.W.Frag) : Sp := fun vs H Q _ => ∃ (C : Co) (N : Net) (st : Addr) (l m : Nat), vs = [.ref C.c, .ref st] ∧ CoOK K H C N ∧ NetOK N ∧ H st = some (.tup (stepV l m)) ∧ l < N.links.length ∧ m < 2 ^ N.v ∧ l ∉ C.used ∧ C.used.length < 1000 ∧
  ∀ C' H', CoOK K H' C' N → C'.c = C.c → CoStep H H' C C' → C'.used = C.used ++ [l] → hs C' = (hs C).set (N.links.getD l (0, 0)).2 ((hs C).getD (N.links.getD l (0, 0)).2 [] ++ [m]) →
    Q (.bl (!mem ((hs C).getD (N.links.getD l (0, 0)).2 []) m)) H'
theorem lk_size (l : Nat × Nat) : (lk l).cps.size = 2 := rfl
theorem lk_list (l : Nat × Nat) : ((lk l).cps.toList.map fun c => V.str ⟨#[c]⟩) = [.str (nl l.1), .str (nl l.2)] := rfl
theorem NwX.link {K : PySem.W.Frag} {H : Hp} {w : Addr} {N : Net} {dx tn tl : Addr} {ts : List (Addr × List Nat)} (h : NwX K H w N dx tn tl ts) {i : Nat} (hi : i < N.links.length) : (N.links.map fun l => V.str (lk l))[i]? = some (.str (lk (N.links.getD i (0, 0)))) := by
  rw [List.getElem?_map, List.getElem?_eq_getElem hi, List.getD_eq_getElem?_getD, List.getElem?_eq_getElem hi]; rfl
theorem shl_iv (v : Nat) : (1 : Int) * 2 ^ (((v : Nat) : Int)).toNat = ((2 ^ v : Nat) : Int) := by
  rw [Int.toNat_natCast, Int.one_mul, Int.natCast_pow]; rfl
section
variable {P : Program} {w : World} {K : PySem.W.Frag} {mg : Str → Option Value} {base : Heap}
theorem c_ends (W : TW K mg) : MCal P w K mg base 1 (CC K) "ends" P_Course_ends (spEnds K) := by
  obtain ⟨fd, F⟩ := W.f_Course_ends
  refine ⟨_, fd, W.m_Course_ends, F.bindsN (fun _ _ _ _ _ _ us hl => match us, hl with | [_, _], _ => rfl), okN F sc_Course_ends (fun vs H Q E h => ?_) (fun cdv A outer s H vs Q E hr h => ?_)⟩
  · obtain ⟨C, N, l, rfl, _⟩ := h
    rfl
  · have hu := hu_of hr
    obtain ⟨C, N, l, rfl, hC, ok, hl, k⟩ := h
    obtain ⟨dx, tn, tl, ts, hN⟩ := hC.nw
    have hlk := ok.link hl
    have hr4 := ok.r4
    refine ⟨_, (pss_cons (ps_asg (pe_ix (ixT K) (pe_fldK K (pe_fldK K (pv 0))) (pv 1) (fun _ _ => rfl)) (pg_txt rfl (pgs_cons (pg_name (i := 2) sc_Course_ends.nd rfl (Or.inl rfl)) (pgs_cons (pg_name (i := 3) sc_Course_ends.nd rfl (Or.inl rfl)) pgs_nil))))
  (pss_one (ps_ret (pe_tup (pa_cons (pe_m1 PySem.F.slot_str_index PySem.F.type_str_index mt_sindex (pe_gstr rfl W.v_NODE_LETTERS) (pv 2)) (pa_cons (pe_m1 PySem.F.slot_str_index PySem.F.type_str_index mt_sindex (pe_gstr rfl W.v_NODE_LETTERS) (pv 3)) pa_nil)))))), ?_⟩
    walk_at "rd0"
    refine ⟨_, _, _, _, _, rfl, hC.ins, W.cls_Course, W.n_Course_network, coF_n C, ?_⟩
    refine ⟨_, _, _, _, _, rfl, hN.ins, W.cls_Network, W.n_Network_links, nwF_l _ _ _, ?_⟩
    walk_at "rd"
    refine r_ixT hN.links l rfl (hN.link hl) ?_
    refine ⟨_, rfl, lk_size _, ?_⟩
    rw [lk_list]
    walk_at "rd"
    refine ⟨_, _, (N.links.getD l (0, 0)).1, [], rfl, rfl, n_index _ (by omega), ?_⟩
    walk_at "rd"
    refine ⟨_, _, (N.links.getD l (0, 0)).2, [], rfl, rfl, n_index _ (by omega), ?_⟩
    walk_at "rd"
    exact ⟨(by show 2 ≤ sizeLine; decide), fun T hT => k T _ (same_new hT) hT upd_same⟩
theorem c_cmask (W : TW K mg) : MCal P w K mg base 2 (CC K) "mask" P_Course_mask (spCMask K) := by
  have c_mask_of := c_mask (P := P) (w := w) (base := base) W
  obtain ⟨fd, F⟩ := W.f_Course_mask
  refine ⟨_, fd, W.m_Course_mask, F.bindsN (fun _ _ _ _ _ _ us hl => match us, hl with | [_, _], _ => rfl), okN F sc_Course_mask (fun vs H Q E h => ?_) (fun cdv A outer s H vs Q E hr h => ?_)⟩
  · obtain ⟨C, N, m, rfl, _⟩ := h
    rfl
  · have hu := hu_of hr
    obtain ⟨C, N, m, rfl, hC, ok, hm, k⟩ := h
    obtain ⟨dx, tn, tl, ts, hN⟩ := hC.nw
    have hv := ok.v
    refine ⟨_, (pss_cons (ps_try_only (c := .ref (He.ga K "BadParity")) (ts := fun _ _ _ => tNever) (Wout := fun _ _ _ _ => False) rfl rfl ⟨rfl, by decide, .inl W.g_BadParity⟩ kn_takes0 (fun _ _ _ _ _ => (pss_one (ps_set (i := 2) sc_Course_mask.nd rfl (Or.inl rfl) (pe_cal c_mask_of (hr.mono (by decide)) (pa_cons (pv 1) pa_nil))))) (fun _ _ _ _ _ _ _ => pss_one ps_never))
  (pss_one (ps_ret (pe_ifExp (pt_cmpR op_lt (pv 2) (pe_op op_shl pe_int (pe_fldK K (pe_fldK K (pv 0)))) (nomark _)) (pv 2) pe_non)))), ?_⟩
    walk_at "rd0"
    refine ⟨m, rfl, pow16 hv hm, ?_⟩
    walk_at "rd"
    refine ⟨_, _, _, _, _, rfl, hC.ins, W.cls_Course, W.n_Course_network, coF_n C, ?_⟩
    refine ⟨_, _, _, _, _, rfl, hN.ins, W.cls_Network, W.n_Network_variables, nwF_v _ _ _, ?_⟩
    refine r_I ⟨by omega, by omega, by decide⟩ ?_
    walk_at "rd"
    rw [shl_iv]
    refine iteD (fun _ => ?_) (fun c => absurd (by omega) c)
    walk_at "rd"
    exact k _ (Same.refl _)
theorem c_can (W : TW K mg) : MCal P w K mg base 3 (CC K) "can" P_Course_can (spCan K) := by
  have c_Course_mask := c_cmask (P := P) (w := w) (base := base) W
  have c_Course_ends := c_ends (P := P) (w := w) (base := base) W
  have c_Span_has := c_has (P := P) (w := w) (base := base) W
  obtain ⟨fd, F⟩ := W.f_Course_can
  refine ⟨_, fd, W.m_Course_can, F.bindsN (fun _ _ _ _ _ _ us hl => match us, hl with | [_, _], _ => rfl), okN F sc_Course_can (fun vs H Q E h => ?_) (fun cdv A outer s H vs Q E hr h => ?_)⟩
  · obtain ⟨C, N, st, l, m, rfl, _⟩ := h
    rfl
  · have hu := hu_of hr
    obtain ⟨C, N, st, l, m, rfl, hC, ok, hst, hl, hm, k⟩ := h
    obtain ⟨dx, tn, tl, ts, hN⟩ := hC.nw
    have hlk := ok.link hl
    have h10 := ok.l10
    have hcl := hC.len
    refine ⟨_, (pss_cons (ps_asg (pv 1) (pg_tupK K rfl (pgs_cons (pg_name (i := 2) sc_Course_can.nd rfl (Or.inl rfl)) (pgs_cons (pg_name (i := 3) sc_Course_can.nd rfl (Or.inl rfl)) pgs_nil))))
  (pss_cons (ps_if (PW.pt (pw_or (pt_not (pt_chain op_le op_lt pe_int (pv 2) (pe_callB (lenK K) rfl W.z_len PySem.boot_len (pa_cons (pe_fldK K (pe_fldK K (pv 0))) pa_nil)))) (pw_or1 (pt_cmp (pc_din hu (pv 2) (pe_fldK K (pv 0)))))))
   (pss_one (ps_ret pe_bl))
   pss_nil)
  (pss_cons (ps_set (i := 4) sc_Course_can.nd rfl (Or.inl rfl) (pe_mcal (pv 0) W.cls_Course c_Course_mask (hr.mono (by decide)) (pa_cons (pv 3) pa_nil)))
  (pss_one (ps_ret (pe_and (pe_cmpR op_notN (pv 4) pe_non (nomark _)) (pe_one (pe_mcal (pe_ix (ixL K) (pe_fldK K (pv 0)) (pe_ix (ixT K) (pe_mcal (pv 0) W.cls_Course c_Course_ends (hr.mono (by decide)) (pa_cons (pv 2) pa_nil)) pe_int (fun _ _ => rfl)) (fun _ _ => rfl)) W.cls_Span c_Span_has (hr.mono (by decide)) (pa_cons (pv 4) pa_nil))))))))), ?_⟩
    walk_at "rd0"
    refine r_gtup hst rfl ?_
    walk_at "rd"
    refine iteD (fun _ => ?_) (fun c => absurd (by omega) c)
    walk_at "rd"
    refine ⟨_, _, _, _, _, rfl, hC.ins, W.cls_Course, W.n_Course_network, coF_n C, ?_⟩
    refine ⟨_, _, _, _, _, rfl, hN.ins, W.cls_Network, W.n_Network_links, nwF_l _ _ _, ?_⟩
    walk_at "rd"
    refine ⟨_, _, rfl, .inr ⟨_, SqT.of hN.links, by rw [List.length_map]⟩, ?_⟩
    walk_at "rd"
    refine iteN (fun c => absurd (by omega) c) (fun _ => ?_)
    walk_at "rd"
    refine ⟨_, _, _, _, _, rfl, hC.ins, W.cls_Course, W.n_Course_used, coF_u C, ?_⟩
    refine ⟨_, _, rfl, DGet.k (k := .inl (l : Int)) hC.us, ?_⟩
    rw [valV_used]
    by_cases cu : l ∈ C.used
    · rw [decide_eq_true cu] at k ⊢
      walk_at "rd"
      exact k _ (Same.refl _)
    · rw [decide_eq_false cu] at k ⊢
      walk_at "rd"
      refine ⟨_, _, _, rfl, hC.ins, rfl, ?_⟩
      walk_at "rd"
      refine ⟨C, N, m, rfl, hC, ok, hm, fun H1 s1 => ?_⟩
      have hC1 := hC.same s1
      walk_at "rd"
      refine ⟨rfl, ?_⟩
      rw [show (!decide (iv m = V.non)) = true from rfl]
      walk_at "rd"
      refine ⟨_, _, _, _, _, rfl, hC1.ins, W.cls_Course, W.n_Course_spans, coF_s C, ?_⟩
      walk_at "rd"
      refine ⟨_, _, _, rfl, hC1.ins, rfl, ?_⟩
      walk_at "rd"
      refine ⟨C, N, l, rfl, hC1, ok, hl, fun T H2 s2 _ eT => ?_⟩
      have hC2 := hC1.same s2
      walk_at "rd"
      refine r_ixT eT 0 rfl rfl ?_
      have hsl : (N.links.getD l (0, 0)).1 < C.nds.length := by omega
      have hnd := List.getElem?_eq_getElem hsl
      have hk := hC2.node _ _ hnd
      refine r_ixL (v := .ref C.nds[(N.links.getD l (0, 0)).1].s) hC2.sps (N.links.getD l (0, 0)).1 rfl (by rw [List.getElem?_map, hnd]; rfl) ?_
      obtain ⟨dxs, hsi⟩ := hk.s.ins
      refine ⟨_, _, _, rfl, hsi, rfl, ?_⟩
      walk_at "rd"
      refine ⟨_, _, _, m, rfl, hk.s, ?_⟩
      rw [hk.rows.has (pow16 ok.v hm)]
      have e : (hs C).getD (N.links.getD l (0, 0)).1 [] = C.nds[(N.links.getD l (0, 0)).1].ms := by
        rw [List.getD_eq_getElem?_getD, hs, List.getElem?_map, hnd]; rfl
      rw [e] at k
      exact k _ (s1.trans s2)
theorem c_do (W : TW K mg) : MCal P w K mg base 3 (CC K) "do" P_Course_do (spDo K) := by
  have c_mask_of := c_mask (P := P) (w := w) (base := base) W
  have c_Course_ends := c_ends (P := P) (w := w) (base := base) W
  have c_Span_add := c_add (P := P) (w := w) (base := base) W
  obtain ⟨fd, F⟩ := W.f_Course_do
  refine ⟨_, fd, W.m_Course_do, F.bindsN (fun _ _ _ _ _ _ us hl => match us, hl with | [_, _], _ => rfl), okN F sc_Course_do (fun vs H Q E h => ?_) (fun cdv A outer s H vs Q E hr h => ?_)⟩
  · obtain ⟨C, N, st, l, m, rfl, _⟩ := h
    rfl
  · have hu := hu_of hr
    obtain ⟨C, N, st, l, m, rfl, hC, ok, hst, hl, hm, hlu, hul, k⟩ := h
    have h16 := pow16 ok.v hm
    have hlk := ok.link hl
    have hcl := hC.len
    have e16 : sizeLine = 16777216 := sizeLine_eq
    refine ⟨_, (pss_cons (ps_asg (pv 1) (pg_tupK K rfl (pgs_cons (pg_name (i := 2) sc_Course_do.nd rfl (Or.inl rfl)) (pgs_cons (pg_name (i := 3) sc_Course_do.nd rfl (Or.inl rfl)) pgs_nil))))
  (pss_cons (ps_set (i := 4) sc_Course_do.nd rfl (Or.inl rfl) (pe_cal c_mask_of (hr.mono (by decide)) (pa_cons (pv 3) pa_nil)))
  (pss_cons (ps_set (i := 5) sc_Course_do.nd rfl (Or.inl rfl) (pe_ix (ixT K) (pe_mcal (pv 0) W.cls_Course c_Course_ends (hr.mono (by decide)) (pa_cons (pv 2) pa_nil)) pe_int (fun _ _ => rfl)))
  (pss_cons (ps_dput hu (pe_fldK K (pv 0)) (pv 2) pe_bl rfl)
  (pss_cons (ps_expr (pe_bmK K PySem.F.plainAttrs_list PySem.F.slot_list_append PySem.F.type_list_append mt_append (pe_ix (ixL K) (pe_fldK K (pv 0)) (pv 5) (fun _ _ => rfl)) (pa_cons (pv 4) pa_nil)))
  (pss_one (ps_ret (pe_mcal (pe_ix (ixL K) (pe_fldK K (pv 0)) (pv 5) (fun _ _ => rfl)) W.cls_Span c_Span_add (hr.mono (by decide)) (pa_cons (pv 4) pa_nil))))))))), ?_⟩
    walk_at "rd0"
    refine r_gtup hst rfl ?_
    walk_at "rd"
    refine ⟨m, rfl, h16, ?_⟩
    walk_at "rd"
    refine ⟨_, _, _, rfl, hC.ins, rfl, ?_⟩
    walk_at "rd"
    refine ⟨C, N, l, rfl, hC, ok, hl, fun T H1 s1 _ eT => ?_⟩
    have hC1 := hC.same s1
    walk_at "rd"
    refine r_ixT eT 1 rfl rfl ?_
    generalize hrv : (N.links.getD l (0, 0)).2 = r at hlk k
    have hrl : r < C.nds.length := by omega
    have hnd := List.getElem?_eq_getElem hrl
    generalize C.nds[r] = n at hnd
    have hk := hC1.node _ _ hnd
    have hml := hC1.mlen _ _ hnd
    obtain ⟨dxs, hsi⟩ := hk.s.ins
    have eh : (hs C).getD r [] = n.ms := by
      rw [List.getD_eq_getElem?_getD, hs, List.getElem?_map, hnd]; rfl
    rw [eh] at k
    walk_at "rd"
    refine ⟨_, _, _, _, _, rfl, hC1.ins, W.cls_Course, W.n_Course_used, coF_u C, ?_⟩
    walk_at "rd"
    refine ⟨_, _, rfl, DPut.k (k := .inl (l : Int)) hC1.us (by show (C.used.map _).length < _; rw [List.length_map]; omega), ?_⟩
    rw [putK_used hlu]
    have hau : C.au ≠ n.a := fun z => by have := hC1.us; rw [z, hk.a] at this; cases this
    have asd : ∀ {b o}, H1 b = some o → Aside K o → b ≠ C.au ∧ b ≠ n.a := fun {b o} e ha => ⟨fun z => hC1.aside e ha (.inl z), fun z => hC1.aside e ha (.inr ⟨n, List.mem_of_getElem? hnd, .inl z⟩)⟩
    have refsA : ∀ {f : Nd → Addr}, Aside K (.lst (C.nds.map fun n => .ref (f n))) := fun {f} => by
      have := hC1.pos
      generalize C.nds = nds at this
      cases nds with
      | nil => cases this
      | cons a r => trivial
    have i1 := asd hC1.ins (by show 4 ≠ 1; decide)
    have i2 := asd hC1.has refsA
    have i3 := asd hC1.sps refsA
    walk_at "rd"
    refine ⟨_, _, _, _, _, rfl, by rw [upd_ne i1.1]; exact hC1.ins, W.cls_Course, W.n_Course_has, coF_h C, ?_⟩
    walk_at "rd"
    refine r_ixL (v := .ref n.a) (by rw [upd_ne i2.1]; exact hC1.has) r rfl (by rw [List.getElem?_map, hnd]; rfl) ?_
    have ea : upd H1 C.au (.dK (usedK (C.used ++ [l]))) n.a = some (.lst (n.ms.map iv)) := by rw [upd_ne hau.symm]; exact hk.a
    refine ⟨.inl ⟨rfl, _, SqL.of ea⟩, ?_⟩
    walk_at "rd"
    refine ⟨n.a, _, _, rfl, rfl, ea, by rw [List.length_map]; omega, ?_⟩
    have em : n.ms.map iv ++ [iv m] = (n.ms ++ [m]).map iv := by rw [List.map_append]; rfl
    rw [em]
    have h3 : ∀ {b o}, b ≠ C.au → b ≠ n.a → H1 b = some o → upd (upd H1 C.au (.dK (usedK (C.used ++ [l])))) n.a (.lst ((n.ms ++ [m]).map iv)) b = some o := fun {b o} z1 z2 e => by rw [upd_ne z2, upd_ne z1]; exact e
    walk_at "rd"
    refine ⟨_, _, _, _, _, rfl, h3 i1.1 i1.2 hC1.ins, W.cls_Course, W.n_Course_spans, coF_s C, ?_⟩
    walk_at "rd"
    refine r_ixL (v := .ref n.s) (h3 i3.1 i3.2 hC1.sps) r rfl (by rw [List.getElem?_map, hnd]; rfl) ?_
    have hsS : SpanAt K (upd (upd H1 C.au (.dK (usedK (C.used ++ [l])))) n.a (.lst ((n.ms ++ [m]).map iv))) n.s n.l n.rows :=
      ⟨⟨dxs, h3 (ne_of hsi hC1.us fun e => dK_ins e.symm) (ne_of hsi hk.a fun e => lst_ins e.symm) hsi⟩, h3 (ne_of hk.s.lst hC1.us lst_dK) (fun z => hC1.cross r r n n hnd hnd z.symm) hk.s.lst⟩
    obtain ⟨dx3, hsi3⟩ := hsS.ins
    refine ⟨_, _, _, rfl, hsi3, rfl, ?_⟩
    walk_at "rd"
    have ehs : ∀ (l' : Addr) (rows' : List Nat), hs (C.did r ⟨n.a, n.s, l', n.ms ++ [m], rows'⟩ l) = (hs C).set r (n.ms ++ [m]) := fun l' rows' => by
      show (C.nds.set r _).map _ = (C.nds.map _).set r _
      rw [List.map_set]
    have e0 := hk.rows.has h16
    have step1 : ∀ {H4 C'}, CoStep H1 H4 C C' → CoStep H H4 C C' := fun s => ⟨fun b o ht e => s.keep b o ht (s1 b o e), fun b e => s1.free (s.dom b e), fun x t => (s.newt x t).imp id fun e => s1.free e⟩
    refine ⟨n.s, n.l, n.rows, m, rfl, hsS, hk.rows.ech, h16, fun h0 => ?_, fun h0 l' H4 kx hn hS4 => ?_⟩
    · obtain ⟨q1, q2⟩ := CoOK.did hC1 (l := l) hnd h16 (fun b o _ _ e => e) (fun b e => e) hsS (hk.rows.old' hk.lt h16 h0) (.inl rfl)
      have := k _ _ q1 rfl (step1 q2) rfl (ehs _ _)
      rw [← e0, h0] at this
      exact this
    · obtain ⟨q1, q2⟩ := CoOK.did hC1 (l := l) hnd h16 (fun b o z1 z2 e => kx.keep b o (by simp only [List.mem_cons, List.not_mem_nil, or_false, not_or]; exact ⟨z1, z2⟩) e) kx.dom hS4 (hk.rows.add' hk.lt h16 h0) (.inr (by
        by_cases z : l' = n.a
        · rw [z, upd_same] at hn; cases hn
        · rw [upd_ne z] at hn
          by_cases z2 : l' = C.au
          · rw [z2, upd_same] at hn; cases hn
          · rw [upd_ne z2] at hn; exact hn))
      have := k _ _ q1 rfl (step1 q2) rfl (ehs _ _)
      rw [← e0, show (leftF n.rows m == 0) = false from beq_eq_false_iff_ne.mpr h0] at this
      exact this
end
end Kn
set_option Elab.async false
set_option linter.all false
set_option maxRecDepth 100000
set_option maxHeartbeats 4000000
namespace Kn
open PySem PySem.Spec PyProof.Rows L2
local macro_rules | `(tactic| walk_at "hp") => `(tactic| first | assumption | exact upd_same | (rw [upd_ne (by assumption)]; walk_at "hp"))
local macro_rules | `(tactic| walk_at "r1") => `(tactic| first
  | with_reducible refine r_seq ?_
  | with_reducible refine r_asg ?_
  | (with_reducible refine r_name ?_; try dsimp only [List.set_cons_succ, List.set_cons_zero])
  | ((with_reducible refine' r_var (v := ?v1) ?h1 ?q1); (case h1 => exact rfl))
  | with_reducible refine r_c ?_
  | with_reducible refine r_op ?_
  | with_reducible refine r_un ?_
  | with_reducible refine r_I0 ?_
  | with_reducible refine r_U ?_
  | with_reducible refine r_ret ?_
  | with_reducible refine r_retN ?_
  | with_reducible refine r_drop ?_
  | with_reducible refine r_next ?_
  | with_reducible refine r_brk ?_
  | with_reducible refine r_cons ?_
  | with_reducible refine r_nil ?_
  | with_reducible refine r_cb ?_
  | with_reducible refine r_ckw ?_
  | with_reducible refine r_test ?_
  | with_reducible refine r_B ?_
  | with_reducible refine r_blN ?_
  | with_reducible refine r_bl ?_
  | with_reducible refine r_ifS ?_
  | with_reducible refine r_if ?_
  | with_reducible refine r_not ?_
  | with_reducible refine r_and ?_
  | with_reducible refine r_or ?_
  | with_reducible refine r_andV ?_
  | with_reducible refine r_andB ?_
  | with_reducible refine r_notV ?_
  | with_reducible refine r_notB ?_
  | with_reducible refine r_call ?_
  | with_reducible refine r_make ?_
  | with_reducible refine r_meth ?_
  | with_reducible refine r_fld ?_
  | with_reducible refine r_tup ?_
  | with_reducible refine r_lst ?_
  | with_reducible refine r_sub ?_
  | with_reducible refine r_sl ?_
  | with_reducible refine r_nop ?_
  | with_reducible refine r_part ?_
  | with_reducible refine r_pti ?_
  | with_reducible refine r_bm ?_
  | with_reducible refine r_m1 ?_
  | with_reducible refine r_m1s ?_
  | with_reducible refine r_dget ?_
  | with_reducible refine r_eq ?_
  | with_reducible refine r_ne ?_
  | with_reducible refine r_eqS ?_
  | with_reducible refine r_neS ?_
  | with_reducible refine r_for ?_
  | with_reducible refine r_lc ?_
  | with_reducible refine r_yes ?_
  | with_reducible refine r_iStr ?_
  | with_reducible refine r_iList ?_
  | with_reducible refine r_iTup ?_
  | with_reducible refine r_iSq ?_
  | with_reducible refine r_iRng ?_
  | with_reducible refine r_iEnumQ ?_
  | with_reducible refine r_iEnumS ?_
  | with_reducible refine r_iEnum ?_
  | with_reducible refine r_iZip ?_
  | with_reducible refine r_tr ?_
  | with_reducible refine r_iSqK ?_
  | with_reducible refine r_fldS ?_
  | with_reducible refine r_dput ?_
  | with_reducible refine r_din ?_
  | with_reducible refine r_gcons ?_
  | with_reducible refine r_gnil ?_
  | with_reducible refine r_gtup upd_same rfl ?_
  | with_reducible refine r_chain ?_
  | with_reducible refine iteT ?_
  | with_reducible refine iteF ?_)
local macro_rules | `(tactic| walk_at "wp") => `(tactic| dsimp only [wipe, List.map_cons, List.map_nil, List.set_cons_succ, List.set_cons_zero])
local macro_rules | `(tactic| walk_at "rd") => `(tactic| repeat (walk_at "r1"))
local macro_rules | `(tactic| walk_at "rd0") => `(tactic| (simp only [L2.start, List.map_cons, List.map_nil, List.length_cons, List.length_nil, Nat.reduceAdd, Nat.reduceSub, List.replicate_succ, List.replicate_zero, List.nil_append, List.cons_append]; repeat (walk_at "r1")))
local macro_rules | `(tactic| walk_at "wp") => `(tactic| dsimp only [wipe, List.map_cons, List.map_nil, List.set_cons_succ, List.set_cons_zero])
/-! ### Course(..), whole -/
theorem co_put (C : Co) : putF (Str.ofString "used") (.ref C.au) (putF (Str.ofString "spans") (.ref C.sp) (putF (Str.ofString "has") (.ref C.ah) (putF (Str.ofString "network") (.ref C.w) []))) = coF C := rfl
def spWhole (K : PySem.W.Frag) : Sp := fun vs H Q _ => ∃ (C : Co) (N : Net), vs = [.ref C.c] ∧ CoOK K H C N ∧ NetOK N ∧
  ∀ s l rows H', Same H H' → SpanAt K H' s l rows → Rows rows N.rows.flatten → Q (.ref s) H'
/-- setting a field of an instance that the base does not care for -/
structure Ins1 (x : Addr) (H0 H : Hp) : Prop where
  keep : ∀ b o, b ≠ x → H0 b = some o → H b = some o
  dom : ∀ b, H b = none → H0 b = none
theorem Ins1.refl (x : Addr) (H : Hp) : Ins1 x H H := ⟨fun _ _ _ e => e, fun _ e => e⟩
theorem Ins1.same {x : Addr} {H0 H H' : Hp} (h : Ins1 x H0 H) (s : Same H H') : Ins1 x H0 H' := ⟨fun b o z e => s _ _ (h.keep b o z e), fun b e => h.dom b (s.free e)⟩
theorem Ins1.put {x : Addr} {H0 H : Hp} {o : HO} (h : Ins1 x H0 H) : Ins1 x H0 (upd H x o) := ⟨fun b u z e => by rw [upd_ne z]; exact h.keep b u z e, fun b e => by
  by_cases z : b = x
  · rw [z, upd_same] at e; cases e
  · rw [upd_ne z] at e; exact h.dom b e⟩
theorem lc2_out {J : It} {n : Nat} {G : Hp → Prop} {Y : Nat → Hp → V → Hp → Prop} (w : Walk J n G Y) {H1 : Hp} {Qd : Hp → Prop} {Z : Nat → V → Hp → (Hp → Prop) → Prop} (Pv : Nat → Hp → Prop) (h0 : Pv 0 H1) (hG : ∀ i H, i ≤ n → Pv i H → G H)
    (hs : ∀ i x H H', i < n → Pv i H → Y i H x H' → Z i x H' (Pv (i + 1))) (hd : ∀ H, Pv n H → Qd H) :
    ∃ W : Nat → Nat → Hp → Prop, (∃ m, W 0 m H1) ∧ ∀ i m H, W i m H →
      (J.stop i H ∧ Qd H) ∨ (J.go i H ∧ ∃ Nx : Hp → Prop, (∀ H', Nx H' → ∃ m', m' < m ∧ W (i + 1) m' H') ∧ ∀ x H', J.yld i H x H' → Z i x H' Nx) := by
  refine ⟨fun i m H => m = n - i ∧ i ≤ n ∧ Pv i H, ⟨n, by simp, Nat.zero_le _, h0⟩, ?_⟩
  rintro i m H ⟨rfl, hi, p⟩
  have q := hG i H hi p
  by_cases hlt : i < n
  · exact .inr ⟨w.goes i H hlt q, Pv (i + 1), fun H' p' => ⟨n - (i + 1), by omega, rfl, hlt, p'⟩, fun x H' y => hs i x H H' hlt p (w.yields i H x H' hlt q y)⟩
  · have e : i = n := by omega
    subst e
    exact .inl ⟨w.stops H q, hd H p⟩
theorem flat_take {rows : List (List Nat)} {i : Nat} (h : i < rows.length) : (rows.take (i + 1)).flatten = (rows.take i).flatten ++ rows.getD i [] := by
  rw [List.take_add_one, List.getElem?_eq_getElem h, List.flatten_append, List.getD_eq_getElem?_getD, List.getElem?_eq_getElem h]
  simp
theorem flat_len {N : Net} (o : NetOK N) : ∀ {k : Nat}, k ≤ N.rows.length → ((N.rows.take k).flatten).length ≤ 4 * k
  | 0, _ => Nat.le_refl _
  | k + 1, hk => by
    have ih := flat_len o (k := k) (by omega)
    have := (o.row (i := k) (by omega)).1
    rw [flat_take (by omega), List.length_append]
    omega
theorem NetOK.flat16 {N : Net} (o : NetOK N) : ∀ m ∈ N.rows.flatten, m < 16 := fun m h => by
  obtain ⟨r, hr, hm⟩ := List.mem_flatten.mp h
  exact pow16 o.v (o.rm r hr m hm).2
section
variable {P : Program} {w : World} {K : PySem.W.Frag} {mg : Str → Option Value} {base : Heap}
theorem c_whole (W : TW K mg) : MCal P w K mg base 5 (CC K) "whole" P_Course_whole (spWhole K) := by
  have c_mask_of := c_mask (P := P) (w := w) (base := base) W
  have c_Span := c_span (P := P) (w := w) (base := base) W
  obtain ⟨fd, F⟩ := W.f_Course_whole
  refine ⟨_, fd, W.m_Course_whole, F.bindsN (fun _ _ _ _ _ _ us hl => match us, hl with | [_], _ => rfl), okN F sc_Course_whole (fun vs H Q E h => ?_) (fun cdv A outer s H vs Q E hr h => ?_)⟩
  · obtain ⟨C, N, rfl, _⟩ := h
    rfl
  · have hu := hu_of hr
    obtain ⟨C, N, rfl, hC, ok, k⟩ := h
    obtain ⟨dx, tn, tl, ts, hN⟩ := hC.nw
    have hr4 := ok.r4
    have e16 : sizeLine = 16777216 := sizeLine_eq
    refine ⟨_, (pss_one (ps_ret (pe_mk c_Span (hr.mono (by decide)) (pa_cons (pe_lc2 (own := [("messages", 1), ("message", 2)]) (vs1 := [2]) rfl sc_Course_whole.nd (pi_tupK K (pe_fldK K (pe_fldK K (pv 0)))) (blkOk_by (own := [("messages", 1), ("message", 2)]) (by first | decide +kernel | kernel_rfl)) (by decide) (fun _ _ _ _ _ => (pg_name (i := 1) sc_Course_whole.nd rfl (Or.inl rfl))) (fun _ _ _ _ _ => pts_nil) (fun _ _ _ _ _ => (pi_tupK K (pv 1))) (fun _ _ _ _ _ => (pg_name (i := 2) sc_Course_whole.nd rfl (Or.inl rfl))) (fun _ _ _ _ _ => pts_nil) (fun _ _ _ _ _ => (pe_cal c_mask_of (hr.mono (by decide)) (pa_cons (pv 2) pa_nil)))) pa_nil)))), ?_⟩
    walk_at "rd0"
    unfold tLc2
    walk_at "rd"
    refine ⟨_, _, _, _, _, rfl, hC.ins, W.cls_Course, W.n_Course_network, coF_n C, ?_⟩
    refine ⟨_, _, _, _, _, rfl, hN.ins, W.cls_Network, W.n_Network_nodes, nwF_n _ _ _, ?_⟩
    refine ⟨_, rfl, ⟨_, SqT.of hN.nodes⟩, fun D hD => lc2_out (walk_tup (xs := ts.map fun t => .ref t.1)) (fun i H' => Same H H' ∧ H' D = some (.lst ((N.rows.take i).flatten.map iv))) ⟨same_new hD, upd_same⟩ (fun i H' _ q => SqT.of (q.1 _ _ hN.nodes)) ?_ ?_⟩
    · rintro i x H1 H2 hi ⟨s1, e1⟩ ⟨rfl, hx⟩
      rw [List.length_map, hN.len] at hi
      obtain ⟨a, h1, h2⟩ := hN.row hi
      rw [h1] at hx
      cases hx
      have hc2 : ∀ H', Same H H' → H' a = some (.tup ((N.rows.getD i []).map tv)) := fun H' s => s _ _ h2
      have hrow := ok.row hi
      have hl := flat_len ok (k := i) (by omega)
      walk_at "wp"
      walk_at "rd"
      refine ⟨rfl, ?_⟩
      walk_at "rd"
      refine ⟨a, rfl, ⟨_, SqT.of (hc2 _ s1)⟩, lc2_out (walk_tup (xs := (N.rows.getD i []).map tv)) (fun j H' => Same H H' ∧ H' D = some (.lst (((N.rows.take i).flatten ++ (N.rows.getD i []).take j).map iv))) ⟨s1, by rw [List.take_zero, List.append_nil]; exact e1⟩ (fun j H' _ q => SqT.of (hc2 H' q.1)) ?_ ?_⟩
      · rintro j z Hc H' hj ⟨s2, e2⟩ ⟨rfl, hz⟩
        rw [List.length_map] at hj
        rw [List.getElem?_map, List.getElem?_eq_getElem hj] at hz
        cases hz
        have h16 := pow16 ok.v (hrow.2 _ (List.getElem_mem hj)).2
        walk_at "rd"
        refine ⟨rfl, ?_⟩
        walk_at "rd"
        refine ⟨_, rfl, h16, ?_⟩
        refine ⟨_, e2, ?_, Same.mut s2 hD, ?_⟩
        · rw [List.length_map, List.length_append, List.length_take]
          omega
        · rw [upd_same, List.take_add_one, List.getElem?_eq_getElem hj, ← List.append_assoc, List.map_append (l₂ := (some _).toList)]
          rfl
      · rintro H2 ⟨s2, e2⟩
        rw [List.length_map, List.take_length] at e2
        exact ⟨s2, by rw [flat_take hi]; exact e2⟩
    · rintro H1 ⟨s1, e1⟩
      rw [List.length_map, hN.len, List.take_length] at e1
      walk_at "rd"
      intro s dx2 ns ndx nex
      refine ⟨s, D, dx2, false, _, rfl, upd_same, sqQ_of (b := false) (by rw [upd_ne (ne_of_none e1 ns), upd_ne (ne_of_none e1 ndx)]; exact e1), ok.flat16, fun l rows H2 kp dm hln hS hR => ⟨rfl, ?_⟩⟩
      exact k s l rows H2 (s1.trans (span_same ns ndx kp)) hS hR
theorem c_co (W : TW K mg) : NCal P w K mg base 5 "Course" (CC K) P_Course_init [] (spCo K) := by
  have c_mask_of := c_mask (P := P) (w := w) (base := base) W
  have c_Span := c_span (P := P) (w := w) (base := base) W
  obtain ⟨fd, F⟩ := W.f_Course_init
  refine ⟨_, fd, [], W.g_Course, W.mk_Course, F.bindsN (fun _ _ _ _ _ _ us hl => match us, hl with | [_, _], _ => rfl), .nil, okN F sc_Course_init (fun vs H Q E h => ?_) (fun cdv A outer s H vs Q E hr h => ?_)⟩
  · obtain ⟨c, dx, x, N, rfl, _⟩ := h
    rfl
  · have hu := hu_of hr
    obtain ⟨c, dx, x, N, rfl, hc, hNw, ok, k⟩ := h
    have hr4 := ok.r4
    have hr0 := ok.r0
    have e16 : sizeLine = 16777216 := sizeLine_eq
    refine ⟨_, (pss_cons (ps_fldK K (pv 0) (pv 1))
  (pss_cons (ps_fldK K (pv 0) (pe_lc (own := [("messages", 2)]) rfl sc_Course_init.nd (pi_tupK K (pe_fldK K (pv 1))) (blkOk_by (own := [("messages", 2)]) (by first | decide +kernel | kernel_rfl)) (fun _ _ _ _ _ => (pg_name (i := 2) sc_Course_init.nd rfl (Or.inl rfl))) (fun _ _ _ _ _ => pts_nil) (fun _ _ _ _ _ => (pe_lc (own := [("message", 3)]) rfl sc_Course_init.nd (pi_tupK K (pv 2)) (blkOk_by (own := [("message", 3)]) (by first | decide +kernel | kernel_rfl)) (fun _ _ _ _ _ => (pg_name (i := 3) sc_Course_init.nd rfl (Or.inl rfl))) (fun _ _ _ _ _ => pts_nil) (fun _ _ _ _ _ => (pe_cal c_mask_of (hr.mono (by decide)) (pa_cons (pv 3) pa_nil)))))))
  (pss_cons (ps_fldK K (pv 0) (pe_lc (own := [("masks", 4)]) rfl sc_Course_init.nd (pi_listK K (pe_fldK K (pv 0))) (blkOk_by (own := [("masks", 4)]) (by first | decide +kernel | kernel_rfl)) (fun _ _ _ _ _ => (pg_name (i := 4) sc_Course_init.nd rfl (Or.inl rfl))) (fun _ _ _ _ _ => pts_nil) (fun _ _ _ _ _ => (pe_mk c_Span (hr.mono (by decide)) (pa_cons (pv 4) pa_nil)))))
  (pss_one (ps_fldK K (pv 0) pe_dnewK))))), ?_⟩
    walk_at "rd0"
    refine ⟨c, _, dx, _, rfl, hc, W.cls_Course, W.n_Course_network, (by decide), ?_⟩
    have ntc : ∀ {a : Addr} {ys : List V}, H a = some (.tup ys) → a ≠ c := fun {a ys} e => ne_of e hc tup_ins
    have i1 : Ins1 c H (upd H c (.ins (He.ga K "Course") dx (putF "network" (.ref x) []))) := (Ins1.refl c H).put
    have ec : upd H c (.ins (He.ga K "Course") dx (putF "network" (.ref x) [])) c = some (.ins (He.ga K "Course") dx (putF "network" (.ref x) [])) := upd_same
    generalize upd H c (.ins (He.ga K "Course") dx (putF "network" (.ref x) [])) = H1 at i1 ec ⊢
    obtain ⟨dxn, tn, tl, ts, hN⟩ := hNw
    have nwI : ∀ {H'}, Ins1 c H H' → NwX K H' x N dxn tn tl ts := fun {H'} i => ⟨i.keep _ _ (ne_of hN.ins hc (ins_ins (by show 3 ≠ 0; decide))) hN.ins, i.keep _ _ (ntc hN.nodes) hN.nodes, hN.eq, fun t ht => i.keep _ _ (ntc (hN.cells t ht)) (hN.cells t ht), i.keep _ _ (ntc hN.links) hN.links⟩
    have hN1 := nwI i1
    walk_at "rd"
    refine ⟨_, _, _, _, _, rfl, hN1.ins, W.cls_Network, W.n_Network_nodes, nwF_n _ _ _, ?_⟩
    refine ⟨tn, rfl, ⟨_, SqT.of hN1.nodes⟩, fun D hD => lc_new (walk_tup (xs := ts.map fun t => .ref t.1)) ySame_at (by rw [List.length_map, hN1.len]; omega) hD (fun _ => true) (fun i => .lst ((N.rows.getD i []).map iv)) (fun H2 s2 => SqT.of (s2 _ _ hN1.nodes)) ?_ fun H2 ts2 s2 e2 em kk nd => ?_⟩
    · rintro i z Hc H' R E hi s ⟨rfl, hz⟩ hR hE
      rw [List.length_map, hN1.len] at hi
      obtain ⟨a, h1, h2⟩ := (hN1.same s).row hi
      rw [h1] at hz
      cases hz
      have hrow := ok.row hi
      walk_at "wp"
      walk_at "rd"
      refine ⟨rfl, ?_⟩
      walk_at "rd"
      refine ⟨a, rfl, ⟨_, SqT.of h2⟩, fun D2 hD2 => lc_all (walk_tup (xs := (N.rows.getD i []).map tv)) ySame_at (by rw [List.length_map]; omega) hD2 (fun j => iv ((N.rows.getD i []).getD j 0)) (fun H3 s3 => SqT.of (s3 _ _ h2)) ?_ fun H3 s3 e3 => ?_⟩
      · rintro j z Hd Hd' R2 E2 hj sd ⟨rfl, hz⟩ hR2
        rw [List.length_map] at hj
        rw [List.getElem?_map, List.getElem?_eq_getElem hj] at hz
        cases hz
        have hg : (N.rows.getD i []).getD j 0 = (N.rows.getD i [])[j] := by rw [List.getD_eq_getElem?_getD, List.getElem?_eq_getElem hj]; rfl
        rw [hg] at hR2
        walk_at "wp"
        walk_at "rd"
        refine ⟨rfl, ?_⟩
        walk_at "rd"
        exact ⟨_, rfl, pow16 ok.v (hrow.2 _ (List.getElem_mem hj)).2, hR2 _ (Same.refl _)⟩
      · refine hR rfl D2 H3 s3 hD2 ?_
        rw [e3, List.length_map]
        congr 2
        refine List.ext_getElem (by simp) fun j q1 q2 => ?_
        simp at q1 q2
        simp [q1]
    · have emL : ts2.map (·.2) = (List.range N.rows.length).map fun i => HO.lst ((N.rows.getD i []).map iv) := by
        rw [em, List.length_map, hN1.len]
        congr 1
        exact List.filter_eq_self.mpr fun _ _ => rfl
      have hl2 : ts2.length = N.rows.length := by
        have := congrArg List.length emL
        rwa [List.length_map, List.length_map, List.length_range] at this
      have ha2 : ∀ (i : Nat) (h : i < ts2.length), H2 ts2[i].1 = some (.lst ((N.rows.getD i []).map iv)) ∧ H1 ts2[i].1 = none := fun i h => by
        obtain ⟨_, q2, q3⟩ := kk _ (List.getElem_mem h)
        refine ⟨?_, q3⟩
        rw [q2]
        have z1 : (ts2.map (·.2))[i]? = some ts2[i].2 := by rw [List.getElem?_map, List.getElem?_eq_getElem h]; rfl
        rw [emL, List.getElem?_map, List.getElem?_range (by omega)] at z1
        exact z1.symm
      walk_at "rd"
      refine ⟨c, _, dx, _, rfl, s2 _ _ ec, W.cls_Course, W.n_Course_has, (by show 1 < 1000; decide), ?_⟩
      have i3 : Ins1 c H (upd H2 c (.ins (He.ga K "Course") dx (putF "has" (.ref D) (putF "network" (.ref x) [])))) := (i1.same s2).put
      have i23 : Ins1 c H2 (upd H2 c (.ins (He.ga K "Course") dx (putF "has" (.ref D) (putF "network" (.ref x) [])))) := (Ins1.refl c H2).put
      have ec3 : upd H2 c (.ins (He.ga K "Course") dx (putF "has" (.ref D) (putF "network" (.ref x) []))) c = some (.ins (He.ga K "Course") dx (putF "has" (.ref D) (putF "network" (.ref x) []))) := upd_same
      have nlc : ∀ {a : Addr} {ys : List V}, H2 a = some (.lst ys) → a ≠ c := fun {a ys} e => ne_of e (s2 _ _ ec) lst_ins
      generalize upd H2 c (.ins (He.ga K "Course") dx (putF "has" (.ref D) (putF "network" (.ref x) []))) = H3 at i3 i23 ec3 ⊢
      have eD3 := i23.keep _ _ (nlc e2) e2
      have ha3 : ∀ (i : Nat) (h : i < ts2.length), H3 ts2[i].1 = some (.lst ((N.rows.getD i []).map iv)) := fun i h => i23.keep _ _ (nlc (ha2 i h).1) (ha2 i h).1
      walk_at "rd"
      refine ⟨c, _, dx, _, _, rfl, ec3, W.cls_Course, W.n_Course_has, rfl, ?_⟩
      refine ⟨D, rfl, ⟨_, SqL.of eD3⟩, fun D4 hD4 => lc_acc walk_list ySame_at (by rw [List.length_map]; omega) hD4 (fun i acc H => ∃ us : List Nd, acc = us.map (fun n => .ref n.s) ∧ us.map (·.a) = (ts2.map (·.1)).take i ∧ us.map (·.ms) = N.rows.take i ∧ (us.map (·.s)).Nodup ∧ (us.map (·.l)).Nodup ∧ ∀ u ∈ us, u.s ≠ D4 ∧ u.l ≠ D4 ∧ SpanAt K H u.s u.l u.rows ∧ Rows u.rows u.ms ∧ H3 u.s = none ∧ H3 u.l = none)
        (fun _ => ⟨[], rfl, rfl, rfl, List.nodup_nil, List.nodup_nil, (fun _ h => nomatch h)⟩) (fun i acc H H' ⟨us, e, q1, q2, q3, q4, q5⟩ kp => ⟨us, e, q1, q2, q3, q4, fun u hu => by
          obtain ⟨p1, p2, ⟨⟨dxu, p3⟩, p4⟩, p5⟩ := q5 u hu
          exact ⟨p1, p2, ⟨⟨dxu, kp _ _ p1 p3⟩, kp _ _ p2 p4⟩, p5⟩⟩) (fun H5 s5 => SqL.of (s5 _ _ eD3)) ?_ fun H5 acc s5 hla ha e5 => ?_⟩
      · rintro i z Hc H' R E hi s ⟨acc0, eDD⟩ ⟨rfl, hz⟩ hR hE
        rw [List.length_map] at hi
        rw [List.getElem?_map, List.getElem?_eq_getElem hi] at hz
        cases hz
        have hrow := ok.row (i := i) (by omega)
        have hai := s _ _ (ha3 i hi)
        walk_at "wp"
        walk_at "rd"
        refine ⟨rfl, ?_⟩
        walk_at "rd"
        intro sp dxs nsp ndx nex
        refine ⟨sp, _, dxs, false, _, rfl, upd_same, sqQ_of (b := false) (by rw [upd_ne (ne_of_none hai nsp), upd_ne (ne_of_none hai ndx)]; exact hai), fun m hm => pow16 ok.v (hrow.2 m hm).2, fun l rows H4 kp dm hln hS hRw => ⟨rfl, ?_⟩⟩
        obtain ⟨hln, hls⟩ := span_free hln
        have s4 := span_same nsp ndx kp
        refine hR _ _ s4 fun acc ⟨us, e, q1, q2, q3, q4, q5⟩ => ⟨us ++ [⟨ts2[i].1, sp, l, N.rows.getD i [], rows⟩], ?_, ?_, ?_, ?_, ?_, fun u hu => ?_⟩
        · rw [e, List.map_append]; rfl
        · rw [List.map_append, q1, List.take_add_one, List.getElem?_map, List.getElem?_eq_getElem hi]
          rfl
        · rw [List.map_append, q2, List.take_add_one, List.getElem?_eq_getElem (by omega), List.getD_eq_getElem?_getD, List.getElem?_eq_getElem (by omega)]
          rfl
        · rw [List.map_append, List.nodup_append]
          refine ⟨q3, by simp, fun b hb b2 hb2 z => ?_⟩
          have hb2 : b2 ∈ [sp] := hb2
          cases List.mem_singleton.mp hb2
          subst z
          obtain ⟨u, hu, rfl⟩ := List.mem_map.mp hb
          obtain ⟨_, _, ⟨⟨dxu, p3⟩, _⟩, _⟩ := q5 u hu
          rw [p3] at nsp; cases nsp
        · rw [List.map_append, List.nodup_append]
          refine ⟨q4, by simp, fun b hb b2 hb2 z => ?_⟩
          have hb2 : b2 ∈ [l] := hb2
          cases List.mem_singleton.mp hb2
          subst z
          obtain ⟨u, hu, rfl⟩ := List.mem_map.mp hb
          obtain ⟨_, _, ⟨_, p4⟩, _⟩ := q5 u hu
          rw [p4] at hln; cases hln
        · rcases List.mem_append.mp hu with h | h
          · obtain ⟨p1, p2, p3, p4⟩ := q5 u h
            exact ⟨p1, p2, p3.same s4, p4⟩
          · cases List.mem_singleton.mp h
            exact ⟨(ne_of_none eDD nsp).symm, (ne_of_none eDD hln).symm, hS, hRw, s.free nsp, s.free hln⟩
      · rw [List.length_map, ← List.length_map (f := (·.1)) (as := ts2), List.take_length, List.length_map, hl2, List.take_length] at ha
        obtain ⟨us, rfl, q1, q2, q3, q4, q5⟩ := ha
        have hul : us.length = N.rows.length := by
          have := congrArg List.length q2
          rwa [List.length_map] at this
        walk_at "rd"
        refine ⟨c, _, dx, _, rfl, s5 _ _ ec3, W.cls_Course, W.n_Course_spans, (by show 2 < 1000; decide), ?_⟩
        have i6 : Ins1 c H (upd H5 c (.ins (He.ga K "Course") dx (putF "spans" (.ref D4) (putF "has" (.ref D) (putF "network" (.ref x) []))))) := (i3.same s5).put
        have i56 : Ins1 c H5 (upd H5 c (.ins (He.ga K "Course") dx (putF "spans" (.ref D4) (putF "has" (.ref D) (putF "network" (.ref x) []))))) := (Ins1.refl c H5).put
        have ec6 : upd H5 c (.ins (He.ga K "Course") dx (putF "spans" (.ref D4) (putF "has" (.ref D) (putF "network" (.ref x) [])))) c = some (.ins (He.ga K "Course") dx (putF "spans" (.ref D4) (putF "has" (.ref D) (putF "network" (.ref x) [])))) := upd_same
        generalize upd H5 c (.ins (He.ga K "Course") dx (putF "spans" (.ref D4) (putF "has" (.ref D) (putF "network" (.ref x) [])))) = H6 at i6 i56 ec6 ⊢
        walk_at "rd"
        intro au hau
        have s7 : Same H6 (upd H6 au (.dK [])) := same_new hau
        walk_at "rd"
        refine ⟨c, _, dx, _, rfl, s7 _ _ ec6, W.cls_Course, W.n_Course_used, (by show 3 < 1000; decide), ?_⟩
        have i8 : Ins1 c H (upd (upd H6 au (.dK [])) c (.ins (He.ga K "Course") dx (putF "used" (.ref au) (putF "spans" (.ref D4) (putF "has" (.ref D) (putF "network" (.ref x) [])))))) := (i6.same s7).put
        have i78 : Ins1 c (upd H6 au (.dK [])) (upd (upd H6 au (.dK [])) c (.ins (He.ga K "Course") dx (putF "used" (.ref au) (putF "spans" (.ref D4) (putF "has" (.ref D) (putF "network" (.ref x) [])))))) := (Ins1.refl c _).put
        have ec8 : upd (upd H6 au (.dK [])) c (.ins (He.ga K "Course") dx (putF "used" (.ref au) (putF "spans" (.ref D4) (putF "has" (.ref D) (putF "network" (.ref x) []))))) c = some (.ins (He.ga K "Course") dx (putF "used" (.ref au) (putF "spans" (.ref D4) (putF "has" (.ref D) (putF "network" (.ref x) []))))) := upd_same
        have eau : upd H6 au (.dK []) au = some (.dK []) := upd_same
        generalize upd (upd H6 au (.dK [])) c (.ins (He.ga K "Course") dx (putF "used" (.ref au) (putF "spans" (.ref D4) (putF "has" (.ref D) (putF "network" (.ref x) []))))) = H8 at i8 i78 ec8 ⊢
        have auc : au ≠ c := ne_of eau (s7 _ _ ec6) dK_ins
        -- from H3 to H8, from H5 to H8
        have k58 : ∀ {b o}, b ≠ c → H5 b = some o → H8 b = some o := fun {b o} z e => i78.keep b o z (s7 _ _ (i56.keep b o z e))
        have k38 : ∀ {b o}, b ≠ c → H3 b = some o → H8 b = some o := fun {b o} z e => k58 z (s5 _ _ e)
        have nlc5 : ∀ {a : Addr} {ys : List V}, H5 a = some (.lst ys) → a ≠ c := fun {a ys} e => ne_of e (s5 _ _ ec3) lst_ins
        have us_a : ∀ (i : Nat) (n : Nd), us[i]? = some n → ∃ h : i < ts2.length, n.a = ts2[i].1 ∧ n.ms = N.rows.getD i [] := fun i n e => by
          have h1 : (us.map (·.a))[i]? = some n.a := by rw [List.getElem?_map, e]; rfl
          have h2 : (us.map (·.ms))[i]? = some n.ms := by rw [List.getElem?_map, e]; rfl
          rw [q1, List.getElem?_map] at h1
          rw [q2] at h2
          have hi : i < ts2.length := by
            have := (List.getElem?_eq_some_iff.mp e).1
            omega
          rw [List.getElem?_eq_getElem hi] at h1
          exact ⟨hi, (Option.some.inj h1).symm, by rw [List.getD_eq_getElem?_getD, h2]; rfl⟩
        refine k ⟨c, x, dx, D, D4, au, us, []⟩ H8 rfl rfl q2 ⟨?_, ?_, ?_, ?_, fun i n e => ?_, hul, by show 0 < us.length; omega, fun i j n m en em ne => ?_, fun i j n m en em => ?_, ⟨dxn, tn, tl, ts, nwI i8⟩, fun i n e => ?_⟩ (fun b o z e => i8.keep b o z e) i8.dom fun y t => ?_
        · rw [ec8]; exact congrArg (fun z => some (HO.ins (CC K) dx z)) (co_put ⟨c, x, dx, D, D4, au, us, []⟩)
        · have := k38 (ne_of eD3 ec3 lst_ins) eD3
          rw [this]
          show some (HO.lst (ts2.map fun t => V.ref t.1)) = some (.lst (us.map fun n => .ref n.a))
          have z1 : (ts2.map fun t => V.ref t.1) = (ts2.map (·.1)).map V.ref := by rw [List.map_map]; rfl
          have z2 : (us.map fun n => V.ref n.a) = (us.map (·.a)).map V.ref := by rw [List.map_map]; rfl
          rw [z1, z2, q1]
        · exact k58 (nlc5 e5) e5
        · exact i78.keep _ _ auc eau
        · obtain ⟨hi, e1, e2⟩ := us_a i n e
          obtain ⟨p1, p2, ⟨⟨dxu, p3⟩, p4⟩, p5, p6, p7⟩ := q5 n (List.mem_of_getElem? e)
          have e3 := ha3 i hi
          refine ⟨?_, ⟨⟨dxu, k58 (ne_of_none ec3 p6).symm p3⟩, k58 (nlc5 p4) p4⟩, p5, fun m hm => ?_⟩
          · rw [e1, e2]
            exact k38 (ne_of e3 ec3 lst_ins) e3
          · rw [e2] at hm
            exact pow16 ok.v ((ok.row (i := i) (by omega)).2 m hm).2
        · refine ⟨?_, nodup_ix q3 en em ne, nodup_ix q4 en em ne⟩
          exact nodup_ix (f := fun n => n.a) (by rw [show us.map (fun n : Nd => n.a) = ts2.map (fun t => t.1) from q1]; exact nd) en em ne
        · obtain ⟨hi, e1, e2⟩ := us_a i n en
          obtain ⟨p1, p2, _, p5, p6, p7⟩ := q5 m (List.mem_of_getElem? em)
          rw [e1]
          exact ne_of_none (ha3 i hi) p7
        · obtain ⟨hi, e1, e2⟩ := us_a i n e
          rw [e2]
          have := (ok.row (i := i) (by omega)).1
          show _ ≤ 4 + 0
          omega
        · rcases t with rfl | ⟨n, hn, z⟩
          · exact i6.dom _ hau
          · obtain ⟨i, hi, en⟩ := List.getElem_of_mem hn
            have en : us[i]? = some n := by rw [← en]; exact List.getElem?_eq_getElem hi
            obtain ⟨hi2, e1, e2⟩ := us_a i n en
            obtain ⟨p1, p2, _, p5, p6, p7⟩ := q5 n hn
            rcases z with rfl | rfl | rfl
            · rw [e1]; exact i1.dom _ (ha2 i hi2).2
            · exact i3.dom _ p6
            · exact i3.dom _ p7
end
end Kn
set_option Elab.async false
set_option linter.all false
set_option maxRecDepth 100000
set_option maxHeartbeats 4000000
namespace Kn
open PySem PySem.Spec PyProof.Rows L2
local macro_rules | `(tactic| walk_at "hp") => `(tactic| first | assumption | exact upd_same | (rw [upd_ne (by assumption)]; walk_at "hp"))
local macro_rules | `(tactic| walk_at "r1") => `(tactic| first
  | with_reducible refine r_seq ?_
  | with_reducible refine r_asg ?_
  | (with_reducible refine r_name ?_; try dsimp only [List.set_cons_succ, List.set_cons_zero])
  | ((with_reducible refine' r_var (v := ?v1) ?h1 ?q1); (case h1 => exact rfl))
  | with_reducible refine r_c ?_
  | with_reducible refine r_op ?_
  | with_reducible refine r_un ?_
  | with_reducible refine r_I0 ?_
  | with_reducible refine r_U ?_
  | with_reducible refine r_ret ?_
  | with_reducible refine r_retN ?_
  | with_reducible refine r_drop ?_
  | with_reducible refine r_next ?_
  | with_reducible refine r_brk ?_
  | with_reducible refine r_cons ?_
  | with_reducible refine r_nil ?_
  | with_reducible refine r_cb ?_
  | with_reducible refine r_ckw ?_
  | with_reducible refine r_test ?_
  | with_reducible refine r_B ?_
  | with_reducible refine r_blN ?_
  | with_reducible refine r_bl ?_
  | with_reducible refine r_ifS ?_
  | with_reducible refine r_if ?_
  | with_reducible refine r_not ?_
  | with_reducible refine r_and ?_
  | with_reducible refine r_or ?_
  | with_reducible refine r_andV ?_
  | with_reducible refine r_andB ?_
  | with_reducible refine r_notV ?_
  | with_reducible refine r_notB ?_
  | with_reducible refine r_call ?_
  | with_reducible refine r_make ?_
  | with_reducible refine r_meth ?_
  | with_reducible refine r_fld ?_
  | with_reducible refine r_tup ?_
  | with_reducible refine r_lst ?_
  | with_reducible refine r_sub ?_
  | with_reducible refine r_sl ?_
  | with_reducible refine r_nop ?_
  | with_reducible refine r_part ?_
  | with_reducible refine r_pti ?_
  | with_reducible refine r_bm ?_
  | with_reducible refine r_m1 ?_
  | with_reducible refine r_m1s ?_
  | with_reducible refine r_dget ?_
  | with_reducible refine r_eq ?_
  | with_reducible refine r_ne ?_
  | with_reducible refine r_eqS ?_
  | with_reducible refine r_neS ?_
  | with_reducible refine r_for ?_
  | with_reducible refine r_lc ?_
  | with_reducible refine r_yes ?_
  | with_reducible refine r_iStr ?_
  | with_reducible refine r_iList ?_
  | with_reducible refine r_iTup ?_
  | with_reducible refine r_iSq ?_
  | with_reducible refine r_iRng ?_
  | with_reducible refine r_iEnumQ ?_
  | with_reducible refine r_iEnumS ?_
  | with_reducible refine r_iEnum ?_
  | with_reducible refine r_iZip ?_
  | with_reducible refine r_tr ?_
  | with_reducible refine r_iSqK ?_
  | with_reducible refine r_fldS ?_
  | with_reducible refine r_dput ?_
  | with_reducible refine r_din ?_
  | with_reducible refine r_gcons ?_
  | with_reducible refine r_gnil ?_
  | with_reducible refine r_gtup upd_same rfl ?_
  | with_reducible refine r_chain ?_
  | with_reducible refine iteT ?_
  | with_reducible refine iteF ?_)
local macro_rules | `(tactic| walk_at "wp") => `(tactic| dsimp only [wipe, List.map_cons, List.map_nil, List.set_cons_succ, List.set_cons_zero])
local macro_rules | `(tactic| walk_at "rd") => `(tactic| repeat (walk_at "r1"))
local macro_rules | `(tactic| walk_at "rd0") => `(tactic| (simp only [L2.start, List.map_cons, List.map_nil, List.length_cons, List.length_nil, Nat.reduceAdd, Nat.reduceSub, List.replicate_succ, List.replicate_zero, List.nil_append, List.cons_append]; repeat (walk_at "r1")))
local macro_rules | `(tactic| walk_at "wp") => `(tactic| dsimp only [wipe, List.map_cons, List.map_nil, List.set_cons_succ, List.set_cons_zero])
/-! ### what steps do, in plain Lean -/
abbrev Step := Nat × Nat
def sdr (N : Net) (s : Step) : Nat := (N.links.getD s.1 (0, 0)).1
def rcv (N : Net) (s : Step) : Nat := (N.links.getD s.1 (0, 0)).2
def send (N : Net) (h : List (List Nat)) (s : Step) : List (List Nat) := h.set (rcv N s) (h.getD (rcv N s) [] ++ [s.2])
def runS (N : Net) (h : List (List Nat)) (S : List Step) : List (List Nat) := S.foldl (send N) h
def okAt (N : Net) (h : List (List Nat)) (us : List Nat) (s : Step) : Bool := !decide (s.1 ∈ us) && mem (h.getD (sdr N s) []) s.2
def good (N : Net) : List (List Nat) → List Nat → List Step → Bool
  | _, _, [] => true
  | h, us, s :: r => okAt N h us s && good N (send N h s) (us ++ [s.1]) r
def news (N : Net) : List (List Nat) → List Step → List Bool
  | _, [] => []
  | h, s :: r => (!mem (h.getD (rcv N s) []) s.2) :: news N (send N h s) r
def stOK (N : Net) (S : List Step) : Prop := ∀ s ∈ S, s.1 < N.links.length ∧ s.2 < 2 ^ N.v
def StepsX (H : Hp) (a : Addr) (b : Bool) (S : List Step) (ts : List (Addr × Step)) : Prop := H a = some (sq b (ts.map fun t => .ref t.1)) ∧ ts.map (·.2) = S ∧ ∀ t ∈ ts, H t.1 = some (.tup (stepV t.2.1 t.2.2))
def StepsAt (H : Hp) (a : Addr) (b : Bool) (S : List Step) : Prop := ∃ ts, StepsX H a b S ts
theorem StepsX.kept {H H' : Hp} {a : Addr} {b : Bool} {S : List Step} {ts : List (Addr × Step)} (h : StepsX H a b S ts) (k : Kept H H') : StepsX H' a b S ts := ⟨k.get h.1 (isPool_sqR _ _ _), h.2.1, fun t ht => k.get (h.2.2 t ht)⟩
theorem StepsX.same {H H' : Hp} {a : Addr} {b : Bool} {S : List Step} {ts : List (Addr × Step)} (h : StepsX H a b S ts) (k : Same H H') : StepsX H' a b S ts := h.kept (Same.kept k)
theorem StepsAt.kept {H H' : Hp} {a : Addr} {b : Bool} {S : List Step} (h : StepsAt H a b S) (k : Kept H H') : StepsAt H' a b S := let ⟨t, q⟩ := h; ⟨t, q.kept k⟩
theorem StepsAt.same {H H' : Hp} {a : Addr} {b : Bool} {S : List Step} (h : StepsAt H a b S) (k : Same H H') : StepsAt H' a b S := let ⟨t, q⟩ := h; ⟨t, q.same k⟩
theorem StepsX.len {H : Hp} {a : Addr} {b : Bool} {S : List Step} {ts : List (Addr × Step)} (h : StepsX H a b S ts) : ts.length = S.length := by rw [← h.2.1, List.length_map]
theorem StepsX.at_ {H : Hp} {a : Addr} {b : Bool} {S : List Step} {ts : List (Addr × Step)} (h : StepsX H a b S ts) {i : Nat} (hi : i < S.length) : ∃ t, (ts.map fun t => V.ref t.1)[i]? = some (.ref t) ∧ H t = some (.tup (stepV S[i].1 S[i].2)) := by
  have hl : i < ts.length := by rw [h.len]; exact hi
  refine ⟨ts[i].1, by rw [List.getElem?_map, List.getElem?_eq_getElem hl]; rfl, ?_⟩
  have e : S[i] = ts[i].2 := by
    have z : (ts.map (·.2))[i]? = some ts[i].2 := by rw [List.getElem?_map, List.getElem?_eq_getElem hl]; rfl
    rw [h.2.1, List.getElem?_eq_getElem hi] at z
    exact Option.some.inj z
  rw [e]
  exact h.2.2 _ (List.getElem_mem hl)
theorem good_drop {N : Net} {h : List (List Nat)} {us : List Nat} {S : List Step} {i : Nat} (hi : i < S.length) : good N h us (S.drop i) = (okAt N h us S[i] && good N (send N h S[i]) (us ++ [S[i].1]) (S.drop (i + 1))) := by
  rw [List.drop_eq_getElem_cons hi]; rfl
theorem run_take {N : Net} {h : List (List Nat)} {S : List Step} {i : Nat} (hi : i < S.length) : runS N h (S.take (i + 1)) = send N (runS N h (S.take i)) S[i] := by
  unfold runS
  rw [List.take_add_one, List.getElem?_eq_getElem hi, List.foldl_append]; rfl
theorem news_append {N : Net} : ∀ {h : List (List Nat)} {S R : List Step}, news N h (S ++ R) = news N h S ++ news N (runS N h S) R
  | _, [], _ => rfl
  | h, s :: S, R => by
    show _ :: news N (send N h s) (S ++ R) = _
    rw [news_append]
    rfl
theorem news_take {N : Net} {h : List (List Nat)} {S : List Step} {i : Nat} (hi : i < S.length) : news N h (S.take (i + 1)) = news N h (S.take i) ++ [!mem ((runS N h (S.take i)).getD (rcv N S[i]) []) S[i].2] := by
  rw [List.take_add_one, List.getElem?_eq_getElem hi, news_append]; rfl
theorem news_len {N : Net} : ∀ {h : List (List Nat)} {S : List Step}, (news N h S).length = S.length
  | _, [] => rfl
  | h, s :: S => by show (news N (send N h s) S).length + 1 = _; rw [news_len]; rfl
theorem CoOK.keeps {K : PySem.W.Frag} {H H' : Hp} {C : Co} {N : Net} (h : CoOK K H C N) (kt : ∀ b o, touch C b → H b = some o → H' b = some o) (ka : ∀ b o, Aside K o → H b = some o → H' b = some o) : CoOK K H' C N := by
  have refsA : ∀ {f : Nd → Addr}, Aside K (.lst (C.nds.map fun n => .ref (f n))) := fun {f} => by
    have := h.pos
    generalize C.nds = nds at this
    cases nds with
    | nil => cases this
    | cons a r => trivial
  refine ⟨ka _ _ (by show 4 ≠ 1; decide) h.ins, ka _ _ refsA h.has, ka _ _ refsA h.sps, kt _ _ (.inl rfl) h.us, fun i n e => ?_, h.len, h.pos, h.dist, h.cross, h.nw.kx ka, h.mlen⟩
  have hk := h.node i n e
  have hm := List.mem_of_getElem? e
  obtain ⟨dx, hi⟩ := hk.s.ins
  exact ⟨kt _ _ (.inr ⟨n, hm, .inl rfl⟩) hk.a, ⟨⟨dx, kt _ _ (.inr ⟨n, hm, .inr (.inl rfl)⟩) hi⟩, kt _ _ (.inr ⟨n, hm, .inr (.inr rfl)⟩) hk.s.lst⟩, hk.rows, hk.lt⟩
theorem bls_aside {K : PySem.W.Frag} {bs : List Bool} : ¬ Aside K (.lst (bs.map V.bl)) := by
  intro h
  cases bs <;> exact h
theorem CoOK.off {K : PySem.W.Frag} {H : Hp} {C : Co} {N : Net} (h : CoOK K H C N) {D : Addr} {bs : List Bool} {o : HO} (ht : ¬ touch C D) (e : H D = some (.lst (bs.map V.bl))) : CoOK K (upd H D o) C N :=
  h.keeps (fun b u t q => by rw [upd_ne (fun z => ht (by rw [← z]; exact t))]; exact q) fun b u a q => by
    rw [upd_ne (fun z => ?_)]
    · exact q
    · rw [z, e] at q
      cases q
      exact bls_aside a
def swapAt (S : List Step) (k : Nat) : List Step := (S.set k (S.getD (k + 1) (0, 0))).set (k + 1) (S.getD k (0, 0))
/-! ### fault, done and what stands on them -/
def spFault (K : PySem.W.Frag) : Sp := fun vs H Q _ => ∃ (x a : Addr) (b : Bool) (N : Net) (S : List Step), vs = [.ref x, .ref a] ∧ NwAt K H x N ∧ NetOK N ∧ StepsAt H a b S ∧ stOK N S ∧ S.length < 100 ∧
  ∀ v H', Same H H' → (good N N.rows [] S = true → v = .non) → (good N N.rows [] S = false → ∃ i : Int, v = .int i) → Q v H'
def spDone (K : PySem.W.Frag) : Sp := fun vs H Q _ => ∃ (x a : Addr) (b : Bool) (N : Net) (S : List Step), vs = [.ref x, .ref a] ∧ NwAt K H x N ∧ NetOK N ∧ StepsAt H a b S ∧ stOK N S ∧ S.length < 100 ∧ good N N.rows [] S = true ∧
  ∀ T D C H', Same H H' → CoOK K H' C N → hs C = runS N N.rows S → C.used.length = S.length → H' T = some (.tup [.ref C.c, .ref D]) → H' D = some (.lst ((news N N.rows S).map V.bl)) → Q (.ref T) H'
def spRanks (K : PySem.W.Frag) : Sp := fun vs H Q _ => ∃ (x a : Addr) (b : Bool) (N : Net) (S : List Step), vs = [.ref x, .ref a] ∧ NwAt K H x N ∧ NetOK N ∧ StepsAt H a b S ∧ stOK N S ∧ S.length < 100 ∧ good N N.rows [] S = true ∧
  ∀ T H', Same H H' → H T = none → H' T = some (.tup ((runS N N.rows S).map fun h => iv (rk h))) → Q (.ref T) H'
def spKnown (K : PySem.W.Frag) : Sp := fun vs H Q _ => ∃ (x a : Addr) (b : Bool) (N : Net) (S : List Step) (i : Nat), vs = [.ref x, .ref a, .str (nl i)] ∧ NwAt K H x N ∧ NetOK N ∧ StepsAt H a b S ∧ stOK N S ∧ S.length < 100 ∧ good N N.rows [] S = true ∧ i < N.rows.length ∧
  ∀ T (kn : List Nat) H', Same H H' → H' T = some (.tup (kn.map tv)) → kn.length ≤ 4 + S.length → (∀ m ∈ kn, m < 16) → (∀ x, mem kn x = mem ((runS N N.rows S).getD i []) x) → Q (.ref T) H'
section
variable {P : Program} {w : World} {K : PySem.W.Frag} {mg : Str → Option Value} {base : Heap}
theorem c_fault (W : TW K mg) : Cal P w K mg base 7 "fault" P_fault (spFault K) := by
  have c_Course := c_co (P := P) (w := w) (base := base) W
  have c_Course_can := c_can (P := P) (w := w) (base := base) W
  have c_Course_do := c_do (P := P) (w := w) (base := base) W
  obtain ⟨fd, F⟩ := W.f_fault
  refine ⟨_, fd, W.g_fault, F.kp, F.bindsN (fun _ _ _ _ _ _ us hl => match us, hl with | [_, _], _ => rfl), okN F sc_fault (fun vs H Q E h => ?_) (fun cdv A outer s H vs Q E hr h => ?_)⟩
  · obtain ⟨x, a, b, N, S, rfl, _⟩ := h
    rfl
  · have hu := hu_of hr
    obtain ⟨x, a, b, N, S, rfl, hN, ok, ⟨ts, hS⟩, hok, hlen, k⟩ := h
    refine ⟨_, (pss_cons (ps_set (i := 2) sc_fault.nd rfl (Or.inl rfl) (pe_mk c_Course (hr.mono (by decide)) (pa_cons (pv 0) pa_nil)))
  (pss_cons (ps_for PassesOwn.never rfl (pi_enumQ rfl W.z_enumerate (pa_cons (pv 1) pa_nil)) (pg_tupK K rfl (pgs_cons (pg_name (i := 3) sc_fault.nd rfl (Or.inl rfl)) (pgs_cons (pg_name (i := 4) sc_fault.nd rfl (Or.inl rfl)) pgs_nil)))
   (pss_cons (ps_if (pt_not (pt_val (pe_mcal (pv 2) W.cls_Course c_Course_can (hr.mono (by decide)) (pa_cons (pv 4) pa_nil))))
   (pss_one (ps_ret (pv 3)))
   pss_nil)
  (pss_one (ps_expr (pe_mcal (pv 2) W.cls_Course c_Course_do (hr.mono (by decide)) (pa_cons (pv 4) pa_nil))))))
  (pss_one (ps_ret pe_non)))), ?_⟩
    walk_at "rd0"
    intro c dx nc ndx nex
    refine ⟨c, dx, x, N, rfl, upd_same, ?_, ok, fun C H1 hcc hcu hch hC kp dm tf => ⟨rfl, ?_⟩⟩
    · exact hN.same ((same_new ndx).trans (same_new (by rw [upd_ne nex.symm]; exact nc)))
    have s1 : Same H H1 := span_same nc ndx kp
    have fr0 : ∀ y, (upd (upd H dx (.own c)) c (.ins (CC K) dx [])) y = none → H y = none := fun y e => (span_free e).1
    have ow1 : Own H H1 C := ⟨s1, fun y t => fr0 y (tf y t)⟩
    walk_at "rd"
    refine ⟨a, b, _, rfl, s1 _ _ hS.1, fun J wk => for_w wk (fun i σ H' => ∃ C, CoOK K H' C N ∧ C.c = c ∧ Own H H' C ∧ C.used.length ≤ i ∧ good N N.rows [] S = good N (hs C) C.used (S.drop i) ∧ ∃ v1 v2, σ = [some (.ref x), some (.ref a), some (.ref c), v1, v2])
      (by exact ⟨C, hC, hcc, ow1, by rw [hcu]; exact Nat.le_refl _, by rw [hch, hcu]; rfl, none, none, rfl⟩) (fun i σ H' _ q => by obtain ⟨_, _, _, o, _⟩ := q; exact o.same _ _ hS.1) ?_ ?_⟩
    · rintro i y σ H2 H3 hi ⟨C, hC, hcc, ow, hul, hg, v1, v2, rfl⟩ ⟨T, ia, z, rfl, hT, rfl, hia, hz⟩
      cases hia
      rw [List.length_map, hS.len] at hi
      dsimp only at hz
      obtain ⟨t, h1, h2⟩ := (hS.same ow.same).at_ hi
      rw [h1] at hz
      cases hz
      have sT : Same H2 (upd H2 T (.tup [.int ((i : Nat) : Int), .ref t])) := same_new hT
      refine r_gtup upd_same rfl ?_
      generalize upd H2 T (.tup [.int ((i : Nat) : Int), .ref t]) = H3 at sT ⊢
      have hC3 := hC.same sT
      have ow3 := ow.more sT
      obtain ⟨l1, l2⟩ := hok _ (List.getElem_mem hi)
      rw [good_drop hi] at hg
      walk_at "rd"
      refine ⟨c, _, _, rfl, hcc ▸ hC3.ins, rfl, ?_⟩
      walk_at "rd"
      refine ⟨C, N, t, S[i].1, S[i].2, congrArg (fun z => [V.ref z, V.ref t]) hcc.symm, hC3, ok, sT _ _ h2, l1, l2, fun H4 s4 => ?_⟩
      have hC4 := hC3.same s4
      have ow4 := ow3.more s4
      have eok : (!decide (S[i].1 ∈ C.used) && mem ((hs C).getD (N.links.getD S[i].1 (0, 0)).1 []) S[i].2) = okAt N (hs C) C.used S[i] := rfl
      rw [eok]
      refine r_blN ?_
      cases ec : okAt N (hs C) C.used S[i] with
      | false =>
        rw [ec] at hg
        refine iteT ?_
        walk_at "rd"
        exact k _ _ ow4.same (fun e => by rw [hg] at e; cases e) fun _ => ⟨_, rfl⟩
      | true =>
        rw [ec] at hg
        have enu : S[i].1 ∉ C.used := by
          intro z
          unfold okAt at ec
          rw [decide_eq_true z] at ec
          cases ec
        refine iteF ?_
        walk_at "rd"
        refine ⟨c, _, _, rfl, hcc ▸ hC4.ins, rfl, ?_⟩
        walk_at "rd"
        refine ⟨C, N, t, S[i].1, S[i].2, congrArg (fun z => [V.ref z, V.ref t]) hcc.symm, hC4, ok, s4 _ _ (sT _ _ h2), l1, l2, enu, by omega, fun C' H5 hC5 ecc st eu eh => ?_⟩
        walk_at "rd"
        refine ⟨C', hC5, by rw [ecc, hcc], ow4.step st, by rw [eu, List.length_append]; show _ + 1 ≤ _; omega, ?_, _, _, rfl⟩
        rw [hg, eu, eh]
        rfl
    · rintro σ H2 ⟨C, hC, hcc, ow, hul, hg, v1, v2, rfl⟩
      rw [List.length_map, hS.len, List.drop_length] at hg
      walk_at "rd"
      exact k _ _ ow.same (fun _ => rfl) fun e => by rw [hg] at e; cases e
theorem c_done (W : TW K mg) : Cal P w K mg base 8 "done" P_done (spDone K) := by
  have c_fault := c_fault (P := P) (w := w) (base := base) W
  have c_Course := c_co (P := P) (w := w) (base := base) W
  have c_Course_do := c_do (P := P) (w := w) (base := base) W
  obtain ⟨fd, F⟩ := W.f_done
  refine ⟨_, fd, W.g_done, F.kp, F.bindsN (fun _ _ _ _ _ _ us hl => match us, hl with | [_, _], _ => rfl), okN F sc_done (fun vs H Q E h => ?_) (fun cdv A outer s H vs Q E hr h => ?_)⟩
  · obtain ⟨x, a, b, N, S, rfl, _⟩ := h
    rfl
  · have hu := hu_of hr
    obtain ⟨x, a, b, N, S, rfl, hN, ok, ⟨ts, hS⟩, hok, hlen, hgd, k⟩ := h
    refine ⟨_, (pss_cons (ps_set (i := 2) sc_done.nd rfl (Or.inl rfl) (pe_cal c_fault (hr.mono (by decide)) (pa_cons (pv 0) (pa_cons (pv 1) pa_nil))))
  (pss_cons (ps_if (pt_cmpR op_notN (pv 2) pe_non (nomark _))
   (pss_one ps_never)
   pss_nil)
  (pss_cons (ps_set (i := 3) sc_done.nd rfl (Or.inr rfl) (pe_mk c_Course (hr.mono (by decide)) (pa_cons (pv 0) pa_nil)))
  (pss_one (ps_ret (pe_tup (pa_cons (pv 3) (pa_cons (pe_lc (own := [("step", 4)]) rfl sc_done.nd (pi_seqK K (pv 1)) (blkOk_by (own := [("step", 4)]) (by first | decide +kernel | kernel_rfl)) (fun _ _ _ _ _ => (pg_name (i := 4) sc_done.nd rfl (Or.inl rfl))) (fun _ _ _ _ _ => pts_nil) (fun _ _ _ _ _ => (pe_mcal (pv 3) W.cls_Course c_Course_do (hr.mono (by decide)) (pa_cons (pv 4) pa_nil)))) pa_nil)))))))), ?_⟩
    walk_at "rd0"
    refine ⟨x, a, b, N, S, rfl, hN, ok, ⟨ts, hS⟩, hok, hlen, fun v H1 s1 hv _ => ?_⟩
    cases hv hgd
    walk_at "rd"
    refine ⟨rfl, ?_⟩
    rw [show (!decide (V.non = V.non)) = false from rfl]
    walk_at "rd"
    intro c dx nc ndx nex
    refine ⟨c, dx, x, N, rfl, upd_same, ?_, ok, fun C H2 hcc hcu hch hC kp dm tf => ⟨rfl, ?_⟩⟩
    · exact (hN.same s1).same ((same_new ndx).trans (same_new (by rw [upd_ne nex.symm]; exact nc)))
    have s2 : Same H1 H2 := span_same nc ndx kp
    have ow2 : Own H H2 C := ⟨s1.trans s2, fun y t => s1.free (span_free (tf y t)).1⟩
    walk_at "rd"
    have hS2 := hS.same (s1.trans s2)
    refine ⟨a, b, _, rfl, sqQ_of hS2.1, fun J wk D hD => lc_it wk (fun i H' => ∃ C, CoOK K H' C N ∧ C.c = c ∧ Own H H' C ∧ C.used.length = i ∧ hs C = runS N N.rows (S.take i) ∧ good N (hs C) C.used (S.drop i) = true ∧ H' D = some (.lst ((news N N.rows (S.take i)).map V.bl)) ∧ ¬ touch C D)
      ?_ (fun i H' _ q => by obtain ⟨_, _, _, o, _⟩ := q; exact sqQ_of (o.same _ _ hS.1)) ?_ ?_⟩
    · refine ⟨C, hC.same (same_new hD), hcc, ow2.more (same_new hD), by rw [hcu]; rfl, by rw [hch]; rfl, by rw [hch, hcu]; exact hgd, upd_same, fun t => ?_⟩
      rcases t with rfl | ⟨n, hn, z⟩
      · rw [hC.us] at hD; cases hD
      · obtain ⟨i, hi, en⟩ := List.getElem_of_mem hn
        have hk := hC.node i n (by rw [← en]; exact List.getElem?_eq_getElem hi)
        obtain ⟨dxn, hki⟩ := hk.s.ins
        rcases z with rfl | rfl | rfl
        · rw [hk.a] at hD; cases hD
        · rw [hki] at hD; cases hD
        · rw [hk.s.lst] at hD; cases hD
    · rintro i z H3 H4 hi ⟨C, hC, hcc, ow, hul, hrun, hg, eD, hnt⟩ ⟨rfl, hz⟩
      rw [List.length_map, hS.len] at hi
      obtain ⟨t, h1, h2⟩ := (hS.same ow.same).at_ hi
      rw [h1] at hz
      cases hz
      obtain ⟨l1, l2⟩ := hok _ (List.getElem_mem hi)
      rw [good_drop hi, Bool.and_eq_true] at hg
      obtain ⟨ec, hg⟩ := hg
      have enu : S[i].1 ∉ C.used := by
        intro z
        unfold okAt at ec
        rw [decide_eq_true z] at ec
        cases ec
      walk_at "wp"
      walk_at "rd"
      refine ⟨rfl, ?_⟩
      walk_at "rd"
      refine ⟨c, _, _, rfl, hcc ▸ hC.ins, rfl, ?_⟩
      walk_at "rd"
      refine ⟨C, N, t, S[i].1, S[i].2, congrArg (fun z => [V.ref z, V.ref t]) hcc.symm, hC, ok, h2, l1, l2, enu, by omega, fun C' H5 hC5 ecc st eu eh => ?_⟩
      have eD5 := st.keep _ _ hnt eD
      have hnt5 : ¬ touch C' D := fun t => by
        rcases st.newt D t with t | t
        · exact hnt t
        · rw [eD] at t; cases t
      refine ⟨_, eD5, ?_, C', hC5.off hnt5 eD5, by rw [ecc, hcc], ⟨Same.mut (ow.step st).same (ow2.same.free hD), (ow.step st).free⟩, ?_, ?_, ?_, ?_, hnt5⟩
      · rw [List.length_map, news_len, List.length_take]
        have e : sizeLine = 16777216 := sizeLine_eq
        omega
      · rw [eu, List.length_append, hul]; rfl
      · rw [run_take hi, ← hrun, eh]; rfl
      · rw [eu, eh]; exact hg
      · rw [upd_same, news_take hi, ← hrun, List.map_append]; rfl
    · rintro H3 ⟨C, hC, hcc, ow, hul, hrun, hg, eD, hnt⟩
      rw [List.length_map, hS.len] at hul
      rw [List.length_map, hS.len, List.take_length] at hrun eD
      walk_at "rd"
      refine ⟨(by show 2 ≤ sizeLine; decide), fun T hT => ?_⟩
      have s4 := same_new (o := .tup [.ref c, .ref D]) hT
      exact k T D C _ (ow.same.trans s4) (hC.same s4) hrun hul (by rw [upd_same, hcc]) (s4 _ _ eD)
theorem c_ranks (W : TW K mg) : Cal P w K mg base 9 "ranks" P_ranks (spRanks K) := by
  have c_done := c_done (P := P) (w := w) (base := base) W
  have c_Span_rank := c_rank (P := P) (w := w) (base := base) W
  obtain ⟨fd, F⟩ := W.f_ranks
  refine ⟨_, fd, W.g_ranks, F.kp, F.bindsN (fun _ _ _ _ _ _ us hl => match us, hl with | [_, _], _ => rfl), okN F sc_ranks (fun vs H Q E h => ?_) (fun cdv A outer s H vs Q E hr h => ?_)⟩
  · obtain ⟨x, a, b, N, S, rfl, _⟩ := h
    rfl
  · have hu := hu_of hr
    obtain ⟨x, a, b, N, S, rfl, hN, ok, hS, hok, hlen, hg, k⟩ := h
    have hr4 := ok.r4
    refine ⟨_, (pss_one (ps_ret (pe_callTy (tupK K) rfl W.z_tuple (by decide +kernel) (pa_cons (pe_lc (own := [("span", 2)]) rfl sc_ranks.nd (pi_listK K (pe_fldK K (pe_ix (ixT K) (pe_cal c_done (hr.mono (by decide)) (pa_cons (pv 0) (pa_cons (pv 1) pa_nil))) pe_int (fun _ _ => rfl)))) (blkOk_by (own := [("span", 2)]) (by first | decide +kernel | kernel_rfl)) (fun _ _ _ _ _ => (pg_name (i := 2) sc_ranks.nd rfl (Or.inl rfl))) (fun _ _ _ _ _ => pts_nil) (fun _ _ _ _ _ => (pe_mcal0 (pv 2) W.cls_Span c_Span_rank (hr.mono (by decide))))) pa_nil)))), ?_⟩
    walk_at "rd0"
    refine ⟨x, a, b, N, S, rfl, hN, ok, hS, hok, hlen, hg, fun T D C H1 s1 hC hrun _ eT eD => ?_⟩
    have hcl := hC.len
    walk_at "rd"
    refine r_ixT eT 0 rfl rfl ?_
    refine ⟨_, _, _, _, _, rfl, hC.ins, W.cls_Course, W.n_Course_spans, coF_s C, ?_⟩
    refine ⟨_, rfl, ⟨_, SqL.of hC.sps⟩, fun D2 hD2 => lc_all walk_list ySame_at (by rw [List.length_map]; omega) hD2 (fun i => iv (rk ((hs C).getD i []))) (fun H2 s2 => SqL.of (s2 _ _ hC.sps)) ?_ fun H2 s2 e2 => ?_⟩
    · rintro i z Hc H' R E hi s ⟨rfl, hz⟩ hR
      rw [List.length_map] at hi
      have hnd := List.getElem?_eq_getElem hi
      rw [List.getElem?_map, hnd] at hz
      cases hz
      have hk := (hC.same s).node _ _ hnd
      obtain ⟨dxn, hki⟩ := hk.s.ins
      have e : (hs C).getD i [] = C.nds[i].ms := by
        rw [List.getD_eq_getElem?_getD, hs, List.getElem?_map, hnd]; rfl
      rw [e, ← hk.rows.len] at hR
      walk_at "wp"
      walk_at "rd"
      refine ⟨rfl, ?_⟩
      walk_at "rd"
      refine ⟨_, _, _, rfl, hki, rfl, ?_⟩
      exact ⟨_, _, _, rfl, hk.s, hR _ (Same.refl _)⟩
    · walk_at "rd"
      refine ⟨D2, _, rfl, .inl ⟨SqL.of e2, fun T2 hT2 => ?_⟩⟩
      refine k T2 _ (s1.trans (s2.trans (same_new hT2))) ((s1.trans s2).free hT2) ?_
      rw [upd_same, List.length_map, ← hrun]
      congr 2
      refine List.ext_getElem (by simp [hs]) fun j q1 q2 => ?_
      simp at q1 q2
      simp [q2, List.getD_eq_getElem?_getD]
theorem c_known (W : TW K mg) : Cal P w K mg base 9 "known" P_known (spKnown K) := by
  have c_done := c_done (P := P) (w := w) (base := base) W
  have c_node_number := c_nn (P := P) (w := w) (base := base) W
  have c_text_of := c_text (P := P) (w := w) (base := base) W
  have c_basis := c_basis (P := P) (w := w) (base := base) W
  obtain ⟨fd, F⟩ := W.f_known
  refine ⟨_, fd, W.g_known, F.kp, F.bindsN (fun _ _ _ _ _ _ us hl => match us, hl with | [_, _, _], _ => rfl), okN F sc_known (fun vs H Q E h => ?_) (fun cdv A outer s H vs Q E hr h => ?_)⟩
  · obtain ⟨x, a, b, N, S, i, rfl, _⟩ := h
    rfl
  · have hu := hu_of hr
    obtain ⟨x, a, b, N, S, i, rfl, hN, ok, hS, hok, hlen, hg, hi, k⟩ := h
    have hr4 := ok.r4
    refine ⟨_, (pss_cons (ps_set (i := 3) sc_known.nd rfl (Or.inl rfl) (pe_ix (ixT K) (pe_cal c_done (hr.mono (by decide)) (pa_cons (pv 0) (pa_cons (pv 1) pa_nil))) pe_int (fun _ _ => rfl)))
  (pss_cons (ps_set (i := 4) sc_known.nd rfl (Or.inr rfl) (pe_lc (own := [("mask", 5)]) rfl sc_known.nd (pi_listK K (pe_ix (ixL K) (pe_fldK K (pv 3)) (pe_cal c_node_number (hr.mono (by decide)) (pa_cons (pv 0) (pa_cons (pv 2) pa_nil))) (fun _ _ => rfl))) (blkOk_by (own := [("mask", 5)]) (by first | decide +kernel | kernel_rfl)) (fun _ _ _ _ _ => (pg_name (i := 5) sc_known.nd rfl (Or.inl rfl))) (fun _ _ _ _ _ => pts_nil) (fun _ _ _ _ _ => (pe_cal c_text_of (hr.mono (by decide)) (pa_cons (pv 5) pa_nil)))))
  (pss_one (ps_ret (pe_callTy (tupK K) rfl W.z_tuple (by decide +kernel) (pa_cons (pe_lc (own := [("number", 6)]) rfl sc_known.nd (pi_tupK K (pe_cal c_basis (hr.mono (by decide)) (pa_cons (pv 4) pa_nil))) (blkOk_by (own := [("number", 6)]) (by first | decide +kernel | kernel_rfl)) (fun _ _ _ _ _ => (pg_name (i := 6) sc_known.nd rfl (Or.inl rfl))) (fun _ _ _ _ _ => pts_nil) (fun _ _ _ _ _ => (pe_ix (ixL K) (pv 4) (pv 6) (fun _ _ => rfl)))) pa_nil)))))), ?_⟩
    walk_at "rd0"
    refine ⟨x, a, b, N, S, rfl, hN, ok, hS, hok, hlen, hg, fun T D C H1 s1 hC hrun hul eT eD => ?_⟩
    have hcl := hC.len
    walk_at "rd"
    refine r_ixT eT 0 rfl rfl ?_
    walk_at "rd"
    refine ⟨_, _, _, _, _, rfl, hC.ins, W.cls_Course, W.n_Course_has, coF_h C, ?_⟩
    walk_at "rd"
    refine ⟨x, N, i, rfl, hN.same s1, ok, hi, fun H2 s2 => ?_⟩
    have hC2 := hC.same s2
    have hin : i < C.nds.length := by omega
    have hnd := List.getElem?_eq_getElem hin
    generalize C.nds[i] = n at hnd
    have hk := hC2.node _ _ hnd
    have hml := hC2.mlen _ _ hnd
    have eh : (runS N N.rows S).getD i [] = n.ms := by
      rw [← hrun, List.getD_eq_getElem?_getD, hs, List.getElem?_map, hnd]; rfl
    rw [eh] at k
    refine r_ixL (v := .ref n.a) hC2.has i rfl (by rw [List.getElem?_map, hnd]; rfl) ?_
    refine ⟨_, rfl, ⟨_, SqL.of hk.a⟩, fun D2 hD2 => lc_all walk_list ySame_at (by rw [List.length_map]; omega) hD2 (fun j => tv (n.ms.getD j 0)) (fun H3 s3 => SqL.of (s3 _ _ hk.a)) ?_ fun H3 s3 e3 => ?_⟩
    · rintro j z Hc H' R E hj s ⟨rfl, hz⟩ hR
      rw [List.length_map] at hj
      rw [List.getElem?_map, List.getElem?_eq_getElem hj] at hz
      cases hz
      have hg : n.ms.getD j 0 = n.ms[j] := by rw [List.getD_eq_getElem?_getD, List.getElem?_eq_getElem hj]; rfl
      rw [hg] at hR
      walk_at "wp"
      walk_at "rd"
      refine ⟨rfl, ?_⟩
      walk_at "rd"
      exact ⟨_, rfl, hk.lt _ (List.getElem_mem hj), fun H4 s4 => hR _ s4⟩
    · have e3' : H3 D2 = some (.lst (n.ms.map tv)) := by
        rw [e3, List.length_map]
        congr 2
        refine List.ext_getElem (by simp) fun j q1 q2 => ?_
        simp at q1 q2
        simp [q1]
      walk_at "rd"
      refine ⟨D2, false, n.ms, rfl, e3', hk.lt, by omega, fun T2 H4 s4 hT2 e4 => ?_⟩
      have hbl : ∀ j ∈ bI n.ms n.ms.length, j < n.ms.length := fun j hj => bI_lt hj
      generalize hB : bI n.ms n.ms.length = B at e4 hbl
      have hBl : B.length ≤ n.ms.length := by
        rw [← hB]
        have := List.length_filter_le (fun i => !mem (n.ms.take i) (n.ms.getD i 0)) (List.range n.ms.length)
        rw [List.length_range] at this
        exact this
      walk_at "rd"
      refine ⟨T2, rfl, ⟨_, SqT.of e4⟩, fun D3 hD3 => lc_all walk_tup ySame_at (by rw [List.length_map]; omega) hD3 (fun j => tv (n.ms.getD (B.getD j 0) 0)) (fun H5 s5 => SqT.of (s5 _ _ e4)) ?_ fun H5 s5 e5 => ?_⟩
      · rintro j z Hc H' R E hj s ⟨rfl, hz⟩ hR
        rw [List.length_map] at hj
        rw [List.getElem?_map, List.getElem?_eq_getElem hj] at hz
        cases hz
        have hb := hbl _ (List.getElem_mem hj)
        have hg : n.ms.getD (B.getD j 0) 0 = n.ms[B[j]] := by
          rw [show B.getD j 0 = B[j] by rw [List.getD_eq_getElem?_getD, List.getElem?_eq_getElem hj]; rfl, List.getD_eq_getElem?_getD, List.getElem?_eq_getElem hb]; rfl
        rw [hg] at hR
        walk_at "wp"
        walk_at "rd"
        refine ⟨rfl, ?_⟩
        walk_at "rd"
        refine r_ixL (s _ _ (s4 _ _ e3')) B[j] rfl (by rw [List.getElem?_map, List.getElem?_eq_getElem hb]; rfl) ?_
        exact hR _ (Same.refl _)
      · walk_at "rd"
        refine ⟨D3, _, rfl, .inl ⟨SqL.of e5, fun T3 hT3 => ?_⟩⟩
        refine k T3 (B.map fun j => n.ms.getD j 0) _ ((((s1.trans s2).trans s3).trans s4).trans (s5.trans (same_new hT3))) ?_ (by rw [List.length_map]; omega) (fun m hm => ?_) fun y => ?_
        · rw [upd_same, List.length_map, List.map_map]
          congr 2
          refine List.ext_getElem (by simp) fun j q1 q2 => ?_
          simp at q1 q2
          simp [q1]
        · obtain ⟨j, hj, rfl⟩ := List.mem_map.mp hm
          have hb := hbl _ hj
          rw [List.getD_eq_getElem?_getD, List.getElem?_eq_getElem hb]
          exact hk.lt _ (List.getElem_mem hb)
        · have := bI_mem (ms := n.ms) (n := n.ms.length) (Nat.le_refl _) y
          rw [hB, List.take_length] at this
          exact this
end
end Kn
set_option Elab.async false
set_option linter.all false
set_option maxRecDepth 100000
set_option maxHeartbeats 4000000
namespace Kn
open PySem PySem.Spec PyProof.Rows L2
local macro_rules | `(tactic| walk_at "hp") => `(tactic| first | assumption | exact upd_same | (rw [upd_ne (by assumption)]; walk_at "hp"))
local macro_rules | `(tactic| walk_at "r1") => `(tactic| first
  | with_reducible refine r_seq ?_
  | with_reducible refine r_asg ?_
  | (with_reducible refine r_name ?_; try dsimp only [List.set_cons_succ, List.set_cons_zero])
  | ((with_reducible refine' r_var (v := ?v1) ?h1 ?q1); (case h1 => exact rfl))
  | with_reducible refine r_c ?_
  | with_reducible refine r_op ?_
  | with_reducible refine r_un ?_
  | with_reducible refine r_I0 ?_
  | with_reducible refine r_U ?_
  | with_reducible refine r_ret ?_
  | with_reducible refine r_retN ?_
  | with_reducible refine r_drop ?_
  | with_reducible refine r_next ?_
  | with_reducible refine r_brk ?_
  | with_reducible refine r_cons ?_
  | with_reducible refine r_nil ?_
  | with_reducible refine r_cb ?_
  | with_reducible refine r_ckw ?_
  | with_reducible refine r_test ?_
  | with_reducible refine r_B ?_
  | with_reducible refine r_blN ?_
  | with_reducible refine r_bl ?_
  | with_reducible refine r_ifS ?_
  | with_reducible refine r_if ?_
  | with_reducible refine r_not ?_
  | with_reducible refine r_and ?_
  | with_reducible refine r_or ?_
  | with_reducible refine r_andV ?_
  | with_reducible refine r_andB ?_
  | with_reducible refine r_notV ?_
  | with_reducible refine r_notB ?_
  | with_reducible refine r_call ?_
  | with_reducible refine r_make ?_
  | with_reducible refine r_meth ?_
  | with_reducible refine r_fld ?_
  | with_reducible refine r_tup ?_
  | with_reducible refine r_lst ?_
  | with_reducible refine r_sub ?_
  | with_reducible refine r_sl ?_
  | with_reducible refine r_nop ?_
  | with_reducible refine r_part ?_
  | with_reducible refine r_pti ?_
  | with_reducible refine r_bm ?_
  | with_reducible refine r_m1 ?_
  | with_reducible refine r_m1s ?_
  | with_reducible refine r_dget ?_
  | with_reducible refine r_eq ?_
  | with_reducible refine r_ne ?_
  | with_reducible refine r_eqS ?_
  | with_reducible refine r_neS ?_
  | with_reducible refine r_for ?_
  | with_reducible refine r_lc ?_
  | with_reducible refine r_yes ?_
  | with_reducible refine r_iStr ?_
  | with_reducible refine r_iList ?_
  | with_reducible refine r_iTup ?_
  | with_reducible refine r_iSq ?_
  | with_reducible refine r_iRng ?_
  | with_reducible refine r_iEnumQ ?_
  | with_reducible refine r_iEnumS ?_
  | with_reducible refine r_iEnum ?_
  | with_reducible refine r_iZip ?_
  | with_reducible refine r_tr ?_
  | with_reducible refine r_iSqK ?_
  | with_reducible refine r_fldS ?_
  | with_reducible refine r_dput ?_
  | with_reducible refine r_din ?_
  | with_reducible refine r_gcons ?_
  | with_reducible refine r_gnil ?_
  | with_reducible refine r_gtup upd_same rfl ?_
  | with_reducible refine r_chain ?_
  | with_reducible refine iteT ?_
  | with_reducible refine iteF ?_)
local macro_rules | `(tactic| walk_at "wp") => `(tactic| dsimp only [wipe, List.map_cons, List.map_nil, List.set_cons_succ, List.set_cons_zero])
local macro_rules | `(tactic| walk_at "rd") => `(tactic| repeat (walk_at "r1"))
local macro_rules | `(tactic| walk_at "rd0") => `(tactic| (simp only [L2.start, List.map_cons, List.map_nil, List.length_cons, List.length_nil, Nat.reduceAdd, Nat.reduceSub, List.replicate_succ, List.replicate_zero, List.nil_append, List.cons_append]; repeat (walk_at "r1")))
local macro_rules | `(tactic| walk_at "wp") => `(tactic| dsimp only [wipe, List.map_cons, List.map_nil, List.set_cons_succ, List.set_cons_zero])
/-! ### informed, idle_steps, can_swap -/
def spInf (K : PySem.W.Frag) : Sp := fun vs H Q _ => ∃ (x a : Addr) (b : Bool) (N : Net) (S : List Step), vs = [.ref x, .ref a] ∧ NwAt K H x N ∧ NetOK N ∧ StepsAt H a b S ∧ stOK N S ∧ S.length < 100 ∧ good N N.rows [] S = true ∧
  ∀ H', Same H H' → Q (.str (Txt.join (Str.ofString "") (((List.range N.rows.length).filter fun i => decide (rk ((runS N N.rows S).getD i []) = rk N.rows.flatten)).map nl))) H'
def spIdle (K : PySem.W.Frag) : Sp := fun vs H Q _ => ∃ (x a : Addr) (b : Bool) (N : Net) (S : List Step), vs = [.ref x, .ref a] ∧ NwAt K H x N ∧ NetOK N ∧ StepsAt H a b S ∧ stOK N S ∧ S.length < 100 ∧ good N N.rows [] S = true ∧
  ∀ T H', Same H H' → H' T = some (.tup (((List.range S.length).filter fun i => !(news N N.rows S).getD i false).map iN)) → Q (.ref T) H'
def spSwap (K : PySem.W.Frag) : Sp := fun vs H Q _ => ∃ (x a : Addr) (b : Bool) (N : Net) (S : List Step) (k : Nat), vs = [.ref x, .ref a, iN k] ∧ NwAt K H x N ∧ NetOK N ∧ StepsAt H a b S ∧ stOK N S ∧ S.length < 100 ∧ good N N.rows [] S = true ∧ k + 1 < S.length ∧
  ∀ H', Same H H' → Q (.bl (good N N.rows [] (swapAt S k))) H'
theorem nl_sum (l : List Nat) : ((l.map nl).map (·.length)).sum = l.length := by
  induction l with
  | nil => rfl
  | cons a r ih =>
    rw [List.map_cons, List.map_cons, List.sum_cons, ih, List.length_cons]
    show 1 + r.length = _
    omega
theorem getD_eq {α : Type} {l : List α} {i : Nat} {d : α} (h : i < l.length) : l.getD i d = l[i] := by rw [List.getD_eq_getElem?_getD, List.getElem?_eq_getElem h]; rfl
theorem swap_ok {N : Net} {S : List Step} {k : Nat} (h : stOK N S) (hk : k + 1 < S.length) : stOK N (swapAt S k) := by
  intro s hs
  unfold swapAt at hs
  rw [getD_eq hk, getD_eq (show k < S.length by omega)] at hs
  rcases List.mem_or_eq_of_mem_set hs with q | q
  · rcases List.mem_or_eq_of_mem_set q with q | q
    · exact h s q
    · rw [q]; exact h _ (List.getElem_mem _)
  · rw [q]; exact h _ (List.getElem_mem _)
section
variable {P : Program} {w : World} {K : PySem.W.Frag} {mg : Str → Option Value} {base : Heap}
theorem c_inf (W : TW K mg) : Cal P w K mg base 9 "informed" P_informed (spInf K) := by
  have c_done := c_done (P := P) (w := w) (base := base) W
  have c_Span_rank := c_rank (P := P) (w := w) (base := base) W
  have c_Course_whole := c_whole (P := P) (w := w) (base := base) W
  obtain ⟨fd, F⟩ := W.f_informed
  refine ⟨_, fd, W.g_informed, F.kp, F.bindsN (fun _ _ _ _ _ _ us hl => match us, hl with | [_, _], _ => rfl), okN F sc_informed (fun vs H Q E h => ?_) (fun cdv A outer s H vs Q E hr h => ?_)⟩
  · obtain ⟨x, a, b, N, S, rfl, _⟩ := h
    rfl
  · have hu := hu_of hr
    obtain ⟨x, a, b, N, S, rfl, hN, ok, hS, hok, hlen, hg, k⟩ := h
    have hr4 := ok.r4
    refine ⟨_, (pss_cons (ps_set (i := 2) sc_informed.nd rfl (Or.inl rfl) (pe_ix (ixT K) (pe_cal c_done (hr.mono (by decide)) (pa_cons (pv 0) (pa_cons (pv 1) pa_nil))) pe_int (fun _ _ => rfl)))
  (pss_cons (ps_set (i := 3) sc_informed.nd rfl (Or.inr rfl) (pe_mcal0 (pe_mcal0 (pv 2) W.cls_Course c_Course_whole (hr.mono (by decide))) W.cls_Span c_Span_rank (hr.mono (by decide))))
  (pss_one (ps_ret (pe_m1 PySem.F.slot_str_join PySem.F.type_str_join (joinK K) pe_str (pe_lc (own := [("number", 4), ("span", 5)]) (g := gTup K 2 (gCons (gName 4) (gCons (gName 5) gNil))) rfl sc_informed.nd (pi_enumQ rfl W.z_enumerate (pa_cons (pe_fldK K (pv 2)) pa_nil)) (blkOk_by (own := [("number", 4), ("span", 5)]) (by first | decide +kernel | kernel_rfl)) (fun _ _ _ _ _ => (pg_tupK K rfl (pgs_cons (pg_name (i := 4) sc_informed.nd rfl (Or.inl rfl)) (pgs_cons (pg_name (i := 5) sc_informed.nd rfl (Or.inl rfl)) pgs_nil)))) (fun _ _ _ _ _ => (pts_one (pt_cmpR op_eq (pe_mcal0 (pv 5) W.cls_Span c_Span_rank (hr.mono (by decide))) (pv 3) (nomark _)))) (fun _ _ _ _ _ => (pe_ix ix_str (pe_gstr rfl W.v_NODE_LETTERS) (pv 4) (fun _ _ => rfl))))))))), ?_⟩
    walk_at "rd0"
    refine ⟨x, a, b, N, S, rfl, hN, ok, hS, hok, hlen, hg, fun T D C H1 s1 hC hrun _ eT eD => ?_⟩
    have hcl := hC.len
    walk_at "rd"
    refine r_ixT eT 0 rfl rfl ?_
    walk_at "rd"
    refine ⟨_, _, _, rfl, hC.ins, rfl, ?_⟩
    refine ⟨C, N, rfl, hC, ok, fun sp l rows H2 s2 hS2 hR2 => ?_⟩
    have hC2 := hC.same s2
    obtain ⟨dxw, hwi⟩ := hS2.ins
    refine ⟨_, _, _, rfl, hwi, rfl, ?_⟩
    refine ⟨_, _, _, rfl, hS2, ?_⟩
    rw [hR2.len]
    walk_at "rd"
    refine ⟨_, _, _, _, _, rfl, hC2.ins, W.cls_Course, W.n_Course_spans, coF_s C, ?_⟩
    walk_at "rd"
    refine ⟨C.sp, false, _, rfl, hC2.sps, fun J wk D2 hD2 => lc_pure wk ySame_pair (by rw [List.length_map]; omega) hD2 (fun i => decide (rk ((runS N N.rows S).getD i []) = rk N.rows.flatten)) (fun i => .str (nl i)) (fun H3 s3 => s3 _ _ hC2.sps) ?_ fun H3 s3 e3 => ?_⟩
    · rintro i z Hc H' R E hi s ⟨T2, ia, y, rfl, hT, rfl, hia, hy⟩ hR hE
      cases hia
      rw [List.length_map] at hi
      dsimp only at hy
      have hnd := List.getElem?_eq_getElem hi
      rw [List.getElem?_map, hnd] at hy
      cases hy
      have sT : Same Hc (upd Hc T2 (.tup [.int ((i : Nat) : Int), .ref C.nds[i].s])) := same_new hT
      have hk := (hC2.same (s.trans sT)).node _ _ hnd
      obtain ⟨dxn, hki⟩ := hk.s.ins
      have e : (runS N N.rows S).getD i [] = C.nds[i].ms := by
        rw [← hrun, List.getD_eq_getElem?_getD, hs, List.getElem?_map, hnd]; rfl
      rw [e, ← hk.rows.len] at hR hE
      walk_at "wp"
      refine r_gtup upd_same rfl ?_
      walk_at "rd"
      walk_at "wp"
      refine ⟨rfl, ?_⟩
      walk_at "rd"
      refine ⟨_, _, _, rfl, hki, rfl, ?_⟩
      refine ⟨_, _, _, rfl, hk.s, ?_⟩
      walk_at "rd"
      have ed : decide (((C.nds[i].rows.length : Nat) : Int) = ((rk N.rows.flatten : Nat) : Int)) = decide (C.nds[i].rows.length = rk N.rows.flatten) := by
        by_cases c : C.nds[i].rows.length = rk N.rows.flatten
        · rw [decide_eq_true c, decide_eq_true (by omega)]
        · rw [decide_eq_false c, decide_eq_false (by omega)]
      rw [ed]
      cases c : decide (C.nds[i].rows.length = rk N.rows.flatten) with
      | true =>
        walk_at "rd"
        refine r_ixS (c := 65 + i) (by decide) i rfl (ns_at6 i (by omega)) ?_
        exact hR c _ (Same.refl _)
      | false =>
        walk_at "rd"
        exact hE c _ (Same.refl _)
    · rw [List.length_map, hcl] at e3
      have hl : ((List.range N.rows.length).filter fun i => decide (rk ((runS N N.rows S).getD i []) = rk N.rows.flatten)).length ≤ 4 := by
        have := List.length_filter_le (fun i => decide (rk ((runS N N.rows S).getD i []) = rk N.rows.flatten)) (List.range N.rows.length)
        rw [List.length_range] at this
        omega
      refine ⟨_, D2, _, rfl, rfl, .inl (SqL.of (by rw [e3, List.map_map]; rfl)), ?_, k _ ((s1.trans s2).trans s3)⟩
      have q3 : (Str.ofString "").length = 0 := rfl
      rw [q3, nl_sum]
      omega
theorem c_idle (W : TW K mg) : Cal P w K mg base 9 "idle_steps" P_idle_steps (spIdle K) := by
  have c_done := c_done (P := P) (w := w) (base := base) W
  obtain ⟨fd, F⟩ := W.f_idle_steps
  refine ⟨_, fd, W.g_idle_steps, F.kp, F.bindsN (fun _ _ _ _ _ _ us hl => match us, hl with | [_, _], _ => rfl), okN F sc_idle_steps (fun vs H Q E h => ?_) (fun cdv A outer s H vs Q E hr h => ?_)⟩
  · obtain ⟨x, a, b, N, S, rfl, _⟩ := h
    rfl
  · have hu := hu_of hr
    obtain ⟨x, a, b, N, S, rfl, hN, ok, hS, hok, hlen, hg, k⟩ := h
    refine ⟨_, (pss_cons (ps_set (i := 2) sc_idle_steps.nd rfl (Or.inl rfl) (pe_ix (ixT K) (pe_cal c_done (hr.mono (by decide)) (pa_cons (pv 0) (pa_cons (pv 1) pa_nil))) pe_int (fun _ _ => rfl)))
  (pss_one (ps_ret (pe_callTy (tupK K) rfl W.z_tuple (by decide +kernel) (pa_cons (pe_lc (own := [("number", 3), ("is_new", 4)]) (g := gTup K 2 (gCons (gName 3) (gCons (gName 4) gNil))) rfl sc_idle_steps.nd (pi_enumQ rfl W.z_enumerate (pa_cons (pv 2) pa_nil)) (blkOk_by (own := [("number", 3), ("is_new", 4)]) (by first | decide +kernel | kernel_rfl)) (fun _ _ _ _ _ => (pg_tupK K rfl (pgs_cons (pg_name (i := 3) sc_idle_steps.nd rfl (Or.inl rfl)) (pgs_cons (pg_name (i := 4) sc_idle_steps.nd rfl (Or.inl rfl)) pgs_nil)))) (fun _ _ _ _ _ => (pts_one (pt_not (pt_val (pv 4))))) (fun _ _ _ _ _ => (pv 3))) pa_nil))))), ?_⟩
    walk_at "rd0"
    refine ⟨x, a, b, N, S, rfl, hN, ok, hS, hok, hlen, hg, fun T D C H1 s1 hC hrun _ eT eD => ?_⟩
    walk_at "rd"
    refine r_ixT eT 1 rfl rfl ?_
    walk_at "rd"
    refine ⟨D, false, _, rfl, eD, fun J wk D2 hD2 => lc_pure wk ySame_pair (by rw [List.length_map, news_len]; omega) hD2 (fun i => !(news N N.rows S).getD i false) (fun i => iN i) (fun H3 s3 => s3 _ _ eD) ?_ fun H3 s3 e3 => ?_⟩
    · rintro i z Hc H' R E hi s ⟨T2, ia, y, rfl, hT, rfl, hia, hy⟩ hR hE
      cases hia
      rw [List.length_map] at hi
      dsimp only at hy
      rw [List.getElem?_map, List.getElem?_eq_getElem hi] at hy
      cases hy
      rw [getD_eq hi] at hR hE
      have sT : Same Hc (upd Hc T2 (.tup [.int ((i : Nat) : Int), .bl (news N N.rows S)[i]])) := same_new hT
      walk_at "wp"
      refine r_gtup upd_same rfl ?_
      walk_at "rd"
      walk_at "wp"
      refine ⟨rfl, ?_⟩
      walk_at "rd"
      cases c : (news N N.rows S)[i] with
      | true =>
        rw [c] at hE
        walk_at "rd"
        refine iteF ?_
        exact hE rfl _ (Same.refl _)
      | false =>
        rw [c] at hR
        walk_at "rd"
        refine iteT ?_
        walk_at "rd"
        exact hR rfl _ (Same.refl _)
    · rw [List.length_map, news_len] at e3
      walk_at "rd"
      refine ⟨D2, _, rfl, .inl ⟨SqL.of e3, fun T3 hT3 => ?_⟩⟩
      exact k T3 _ (s1.trans (s3.trans (same_new hT3))) upd_same
theorem c_swap (W : TW K mg) : Cal P w K mg base 9 "can_swap" P_can_swap (spSwap K) := by
  have c_done := c_done (P := P) (w := w) (base := base) W
  have c_fault := c_fault (P := P) (w := w) (base := base) W
  obtain ⟨fd, F⟩ := W.f_can_swap
  refine ⟨_, fd, W.g_can_swap, F.kp, F.bindsN (fun _ _ _ _ _ _ us hl => match us, hl with | [_, _, _], _ => rfl), okN F sc_can_swap (fun vs H Q E h => ?_) (fun cdv A outer s H vs Q E hr h => ?_)⟩
  · obtain ⟨x, a, b, N, S, i, rfl, _⟩ := h
    rfl
  · have hu := hu_of hr
    obtain ⟨x, a, b, N, S, i, rfl, hN, ok, ⟨ts, hS⟩, hok, hlen, hg, hi, k⟩ := h
    have htl := hS.len
    refine ⟨_, (pss_cons (ps_expr (pe_cal c_done (hr.mono (by decide)) (pa_cons (pv 0) (pa_cons (pv 1) pa_nil))))
  (pss_cons (ps_set (i := 3) sc_can_swap.nd rfl (Or.inl rfl) (pe_callTy (listK K) rfl W.z_list (by decide +kernel) (pa_cons (pv 1) pa_nil)))
  (pss_cons (ps_asg (pe_tup (pa_cons (pe_ix (ixL K) (pv 3) (pe_op op_add (pv 2) pe_int) (fun _ _ => rfl)) (pa_cons (pe_ix (ixL K) (pv 3) (pv 2) (fun _ _ => rfl)) pa_nil))) (pg_tupK K rfl (pgs_cons (pg_sub (pv 3) (pv 2) set_list) (pgs_cons (pg_sub (pv 3) (pe_op op_add (pv 2) pe_int) set_list) pgs_nil))))
  (pss_one (ps_ret (pe_cmpR op_isN (pe_cal c_fault (hr.mono (by decide)) (pa_cons (pv 0) (pa_cons (pv 3) pa_nil))) pe_non (nomark _))))))), ?_⟩
    walk_at "rd0"
    refine ⟨x, a, b, N, S, rfl, hN, ok, ⟨ts, hS⟩, hok, hlen, hg, fun T D C H1 s1 hC hrun _ eT eD => ?_⟩
    have hS1 := hS.same s1
    walk_at "rd"
    refine ⟨a, _, rfl, sq_seq hS1.1, fun f hf => ?_⟩
    have s2 : Same H1 (upd H1 f (.lst (ts.map fun t => .ref t.1))) := same_new hf
    have ef : upd H1 f (.lst (ts.map fun t => .ref t.1)) f = some (.lst (ts.map fun t => .ref t.1)) := upd_same
    generalize upd H1 f (.lst (ts.map fun t => .ref t.1)) = H2 at s2 ef ⊢
    have hi0 : i < ts.length := by omega
    have hi1 : i + 1 < ts.length := by omega
    walk_at "rd"
    refine r_ixL ef (i + 1) rfl (by rw [List.getElem?_map, List.getElem?_eq_getElem hi1]; rfl) ?_
    walk_at "rd"
    refine r_ixL ef i rfl (by rw [List.getElem?_map, List.getElem?_eq_getElem hi0]; rfl) ?_
    walk_at "rd"
    refine ⟨(by show 2 ≤ sizeLine; decide), fun T2 hT2 => ?_⟩
    have fT : f ≠ T2 := ne_of_none ef hT2
    refine r_gtup upd_same rfl ?_
    have s3 : Same H2 (upd H2 T2 (.tup [.ref ts[i + 1].1, .ref ts[i].1])) := same_new hT2
    have ef3 : upd H2 T2 (.tup [.ref ts[i + 1].1, .ref ts[i].1]) f = some (.lst (ts.map fun t => .ref t.1)) := s3 _ _ ef
    generalize upd H2 T2 (.tup [.ref ts[i + 1].1, .ref ts[i].1]) = H3 at s3 ef3 ⊢
    refine ⟨_, _, rfl, ?_⟩
    refine r_sub ?_
    walk_at "rd"
    refine r_setL ef3 i rfl (by rw [List.length_map]; exact hi0) ?_
    refine ⟨_, _, rfl, ?_⟩
    refine r_sub ?_
    walk_at "rd"
    refine r_setL upd_same (i + 1) rfl (by rw [List.length_set, List.length_map]; exact hi1) ?_
    refine ⟨rfl, ?_⟩
    rw [upd_upd]
    walk_at "rd"
    have hfn : H f = none := s1.free hf
    have s4 : Same H (upd H3 f (.lst (((ts.map fun t => V.ref t.1).set i (.ref ts[i + 1].1)).set (i + 1) (.ref ts[i].1)))) := Same.mut ((s1.trans s2).trans s3) hfn
    have eL : ((ts.map fun t => V.ref t.1).set i (.ref ts[i + 1].1)).set (i + 1) (.ref ts[i].1) = ((ts.set i ts[i + 1]).set (i + 1) ts[i]).map fun t => V.ref t.1 := by
      rw [List.map_set, List.map_set]
    rw [eL] at s4 ⊢
    have hS4 : StepsX (upd H3 f (.lst (((ts.set i ts[i + 1]).set (i + 1) ts[i]).map fun t => V.ref t.1))) f false (swapAt S i) ((ts.set i ts[i + 1]).set (i + 1) ts[i]) := by
      refine ⟨upd_same, ?_, fun t ht => ?_⟩
      · rw [List.map_set, List.map_set, hS.2.1]
        unfold swapAt
        have e1 : S.getD (i + 1) (0, 0) = ts[i + 1].2 := by
          rw [← hS.2.1, List.getD_eq_getElem?_getD, List.getElem?_map, List.getElem?_eq_getElem hi1]; rfl
        have e2 : S.getD i (0, 0) = ts[i].2 := by
          rw [← hS.2.1, List.getD_eq_getElem?_getD, List.getElem?_map, List.getElem?_eq_getElem hi0]; rfl
        rw [e1, e2]
      · have hm : t ∈ ts := by
          rcases List.mem_or_eq_of_mem_set ht with q | q
          · rcases List.mem_or_eq_of_mem_set q with q | q
            · exact q
            · rw [q]; exact List.getElem_mem _
          · rw [q]; exact List.getElem_mem _
        exact s4 _ _ (hS.2.2 t hm)
    refine ⟨x, f, false, N, swapAt S i, rfl, hN.same s4, ok, ⟨_, hS4⟩, swap_ok hok hi, by unfold swapAt; rw [List.length_set, List.length_set]; exact hlen, fun v H5 s5 h1 h2 => ?_⟩
    walk_at "rd"
    refine ⟨rfl, ?_⟩
    cases c : good N N.rows [] (swapAt S i) with
    | true =>
      rw [h1 c]
      rw [c] at k
      exact k _ (s4.trans s5)
    | false =>
      obtain ⟨j, rfl⟩ := h2 c
      rw [c] at k
      exact k _ (s4.trans s5)
end
end Kn
set_option Elab.async false
set_option linter.all false
set_option maxRecDepth 100000
set_option maxHeartbeats 4000000
namespace Kn
open PySem PySem.Spec PyProof.Rows L2
local macro_rules | `(tactic| walk_at "hp") => `(tactic| first | assumption | exact upd_same | (rw [upd_ne (by assumption)]; walk_at "hp"))
local macro_rules | `(tactic| walk_at "r1") => `(tactic| first
  | with_reducible refine r_seq ?_
  | with_reducible refine r_asg ?_
  | (with_reducible refine r_name ?_; try dsimp only [List.set_cons_succ, List.set_cons_zero])
  | ((with_reducible refine' r_var (v := ?v1) ?h1 ?q1); (case h1 => exact rfl))
  | with_reducible refine r_c ?_
  | with_reducible refine r_op ?_
  | with_reducible refine r_un ?_
  | with_reducible refine r_I0 ?_
  | with_reducible refine r_U ?_
  | with_reducible refine r_ret ?_
  | with_reducible refine r_retN ?_
  | with_reducible refine r_drop ?_
  | with_reducible refine r_next ?_
  | with_reducible refine r_brk ?_
  | with_reducible refine r_cons ?_
  | with_reducible refine r_nil ?_
  | with_reducible refine r_cb ?_
  | with_reducible refine r_ckw ?_
  | with_reducible refine r_test ?_
  | with_reducible refine r_B ?_
  | with_reducible refine r_blN ?_
  | with_reducible refine r_bl ?_
  | with_reducible refine r_ifS ?_
  | with_reducible refine r_if ?_
  | with_reducible refine r_not ?_
  | with_reducible refine r_and ?_
  | with_reducible refine r_or ?_
  | with_reducible refine r_andV ?_
  | with_reducible refine r_andB ?_
  | with_reducible refine r_notV ?_
  | with_reducible refine r_notB ?_
  | with_reducible refine r_call ?_
  | with_reducible refine r_make ?_
  | with_reducible refine r_meth ?_
  | with_reducible refine r_fld ?_
  | with_reducible refine r_tup ?_
  | with_reducible refine r_lst ?_
  | with_reducible refine r_sub ?_
  | with_reducible refine r_sl ?_
  | with_reducible refine r_nop ?_
  | with_reducible refine r_part ?_
  | with_reducible refine r_pti ?_
  | with_reducible refine r_bm ?_
  | with_reducible refine r_m1 ?_
  | with_reducible refine r_m1s ?_
  | with_reducible refine r_dget ?_
  | with_reducible refine r_eq ?_
  | with_reducible refine r_ne ?_
  | with_reducible refine r_eqS ?_
  | with_reducible refine r_neS ?_
  | with_reducible refine r_for ?_
  | with_reducible refine r_lc ?_
  | with_reducible refine r_yes ?_
  | with_reducible refine r_iStr ?_
  | with_reducible refine r_iList ?_
  | with_reducible refine r_iTup ?_
  | with_reducible refine r_iSq ?_
  | with_reducible refine r_iRng ?_
  | with_reducible refine r_iEnumQ ?_
  | with_reducible refine r_iEnumS ?_
  | with_reducible refine r_iEnum ?_
  | with_reducible refine r_iZip ?_
  | with_reducible refine r_tr ?_
  | with_reducible refine r_iSqK ?_
  | with_reducible refine r_fldS ?_
  | with_reducible refine r_dput ?_
  | with_reducible refine r_din ?_
  | with_reducible refine r_gcons ?_
  | with_reducible refine r_gnil ?_
  | with_reducible refine r_gtup upd_same rfl ?_
  | with_reducible refine r_chain ?_
  | with_reducible refine iteT ?_
  | with_reducible refine iteF ?_)
local macro_rules | `(tactic| walk_at "wp") => `(tactic| dsimp only [wipe, List.map_cons, List.map_nil, List.set_cons_succ, List.set_cons_zero])
local macro_rules | `(tactic| walk_at "rd") => `(tactic| repeat (walk_at "r1"))
local macro_rules | `(tactic| walk_at "rd0") => `(tactic| (simp only [L2.start, List.map_cons, List.map_nil, List.length_cons, List.length_nil, Nat.reduceAdd, Nat.reduceSub, List.replicate_succ, List.replicate_zero, List.nil_append, List.cons_append]; repeat (walk_at "r1")))
local macro_rules | `(tactic| walk_at "wp") => `(tactic| dsimp only [wipe, List.map_cons, List.map_nil, List.set_cons_succ, List.set_cons_zero])
/-! ### transmissions -/
abbrev Org := Nat × Nat
def msgAt (N : Net) (o : Org) : Nat := (N.rows.getD o.1 []).getD o.2 0
def orgOK (N : Net) (o : Org) : Prop := o.1 < N.rows.length ∧ o.2 < (N.rows.getD o.1 []).length
abbrev tri (N : Net) (o : Org) : List V := [.str (nl o.1), iN o.2, tv (msgAt N o)]
abbrev HL := Addr × List (Addr × Org)
structure HasX (H : Hp) (a : Addr) (N : Net) (A : List (List Org)) (ls : List HL) : Prop where
  top : H a = some (.lst (ls.map fun l => .ref l.1))
  eq : (ls.map fun l => l.2.map (·.2)) = A
  row : ∀ l ∈ ls, H l.1 = some (.lst (l.2.map fun t => .ref t.1))
  cell : ∀ l ∈ ls, ∀ t ∈ l.2, H t.1 = some (.tup (tri N t.2))
  ok : ∀ l ∈ ls, ∀ t ∈ l.2, orgOK N t.2
def HasA (H : Hp) (a : Addr) (N : Net) (A : List (List Org)) : Prop := ∃ ls, HasX H a N A ls
theorem HasX.kept {H H' : Hp} {a : Addr} {N : Net} {A : List (List Org)} {ls : List HL} (h : HasX H a N A ls) (k : Kept H H') : HasX H' a N A ls :=
  ⟨k.get h.top (isPool_refs _ _), h.eq, fun l hl => k.get (h.row l hl) (isPool_refs _ _), fun l hl t ht => k.get (h.cell l hl t ht), h.ok⟩
theorem HasX.same {H H' : Hp} {a : Addr} {N : Net} {A : List (List Org)} {ls : List HL} (h : HasX H a N A ls) (k : Same H H') : HasX H' a N A ls := h.kept (Same.kept k)
theorem HasA.kept {H H' : Hp} {a : Addr} {N : Net} {A : List (List Org)} (h : HasA H a N A) (k : Kept H H') : HasA H' a N A := let ⟨l, q⟩ := h; ⟨l, q.kept k⟩
theorem HasA.same {H H' : Hp} {a : Addr} {N : Net} {A : List (List Org)} (h : HasA H a N A) (k : Same H H') : HasA H' a N A := h.kept (Same.kept k)
def HasZ (z : Addr) (H : Hp) (a : Addr) (N : Net) (A : List (List Org)) : Prop := ∃ ls, HasX H a N A ls ∧ a ≠ z ∧ ∀ l ∈ ls, l.1 ≠ z
theorem HasZ.kept {z : Addr} {H H' : Hp} {a : Addr} {N : Net} {A : List (List Org)} (h : HasZ z H a N A) (k : Kept H H') : HasZ z H' a N A := let ⟨l, q, r⟩ := h; ⟨l, q.kept k, r⟩
theorem HasZ.same {z : Addr} {H H' : Hp} {a : Addr} {N : Net} {A : List (List Org)} (h : HasZ z H a N A) (k : Same H H') : HasZ z H' a N A := h.kept (Same.kept k)
theorem HasZ.a {z : Addr} {H : Hp} {a : Addr} {N : Net} {A : List (List Org)} (h : HasZ z H a N A) : HasA H a N A := let ⟨l, q, _⟩ := h; ⟨l, q⟩
theorem HasA.z {z : Addr} {H : Hp} {a : Addr} {N : Net} {A : List (List Org)} (h : HasA H a N A) (hz : H z = none) : HasZ z H a N A := let ⟨l, q⟩ := h; ⟨l, q, ne_of_none q.top hz, fun x hx => ne_of_none (q.row x hx) hz⟩
theorem HasZ.upd {z : Addr} {H : Hp} {o : HO} {a : Addr} {N : Net} {A : List (List Org)} {xs : List V} (h : HasZ z H a N A) (hz : H z = some (.lst xs)) : HasZ z (upd H z o) a N A := by
  obtain ⟨l, q, n1, n2⟩ := h
  exact ⟨l, ⟨by rw [upd_ne n1]; exact q.top, q.eq, fun x hx => by rw [upd_ne (n2 x hx)]; exact q.row x hx, fun x hx t ht => by rw [upd_ne (ne_of (q.cell x hx t ht) hz (by intro e; cases e))]; exact q.cell x hx t ht, q.ok⟩, n1, n2⟩
theorem HasX.len {H : Hp} {a : Addr} {N : Net} {A : List (List Org)} {ls : List HL} (h : HasX H a N A ls) : ls.length = A.length := by rw [← h.eq, List.length_map]
theorem HasX.at_ {H : Hp} {a : Addr} {N : Net} {A : List (List Org)} {ls : List HL} (h : HasX H a N A ls) {i : Nat} (hi : i < A.length) : ∃ l, ls[i]? = some l ∧ l ∈ ls ∧ l.2.map (·.2) = A.getD i [] := by
  have hl : i < ls.length := by rw [h.len]; exact hi
  refine ⟨ls[i], List.getElem?_eq_getElem hl, List.getElem_mem hl, ?_⟩
  rw [← h.eq, List.getD_eq_getElem?_getD, List.getElem?_map, List.getElem?_eq_getElem hl]; rfl
def beg (N : Net) (k : Nat) : List (List Org) := (List.range k).map fun i => (List.range (N.rows.getD i []).length).map fun j => (i, j)
def spBegin : Sp := fun vs H Q _ => ∃ (d : Addr) (N : Net), vs = [.ref d] ∧ NetAt H d N ∧ NetOK N ∧ ∀ a H', Same H H' → H a = none → HasA H' a N (beg N N.rows.length) → Q (.ref a) H'
def spSent : Sp := fun vs H Q _ => ∃ (d a st z : Addr) (N : Net) (A : List (List Org)) (l : Nat) (o : Org), vs = [.ref d, .ref a, .ref st] ∧ (∃ zo, H z = some zo) ∧ NetAt H d N ∧ NetOK N ∧ HasZ z H a N A ∧ A.length = N.rows.length ∧ H st = some (.tup [iN l, .str (nl o.1), iN o.2]) ∧ l < N.links.length ∧ orgOK N o ∧
  (∀ r ∈ A, r.length < 1000) ∧ ∀ b H', Same H H' → HasZ z H' b N (A.set (N.links.getD l (0, 0)).2 (A.getD (N.links.getD l (0, 0)).2 [] ++ [o])) → Q (.ref b) H'
def spCompl : Sp := fun vs H Q _ => ∃ (d a : Addr) (N : Net) (A : List (List Org)), vs = [.ref d, .ref a] ∧ NetAt H d N ∧ NetOK N ∧ HasA H a N A ∧ A.length = N.rows.length ∧ (∀ r ∈ A, r.length < 1000) ∧
  ∀ H', Same H H' → Q (.bl (A.all fun r => decide (rk (r.map (msgAt N)) = rk (msgs N 63)))) H'
theorem msgAt_get {N : Net} {o : Org} (h : orgOK N o) : (N.rows.getD o.1 [])[o.2]? = some (msgAt N o) := by
  unfold msgAt
  rw [List.getElem?_eq_getElem h.2, getD_eq h.2]
theorem msgAt_lt {N : Net} (ok : NetOK N) {o : Org} (h : orgOK N o) : 1 ≤ msgAt N o ∧ msgAt N o < 2 ^ N.v := by
  refine (ok.row h.1).2 _ ?_
  exact List.mem_of_getElem? (msgAt_get h)
section
variable {P : Program} {w : World} {K : PySem.W.Frag} {mg : Str → Option Value} {base : Heap}
theorem c_begin (W : TW K mg) : Cal P w K mg base 1 "_law_begin" P__law_begin spBegin := by
  obtain ⟨fd, F⟩ := W.f__law_begin
  refine ⟨_, fd, W.g__law_begin, F.kp, F.bindsN (fun _ _ _ _ _ _ us hl => match us, hl with | [_], _ => rfl), okN F sc__law_begin (fun vs H Q E h => ?_) (fun cdv A outer s H vs Q E hr h => ?_)⟩
  · obtain ⟨d, N, rfl, _⟩ := h
    rfl
  · have hu := hu_of hr
    obtain ⟨d, N, rfl, ⟨ra, la, rs, hN⟩, ok, k⟩ := h
    have hr4 := ok.r4
    refine ⟨_, (pss_cons (ps_set (i := 1) sc__law_begin.nd rfl (Or.inl rfl) (pe_lst pa_nil))
  (pss_cons (ps_for PassesOwn.never rfl (pi_range1 rfl W.z_range (pa_cons (pe_callB (lenK K) rfl W.z_len PySem.boot_len (pa_cons (pe_dget hu (pv 0) pe_str (fun _ _ => rfl)) pa_nil)) pa_nil)) (pg_name (i := 2) sc__law_begin.nd rfl (Or.inr rfl))
   (pss_one (ps_expr (pe_bmK K PySem.F.plainAttrs_list PySem.F.slot_list_append PySem.F.type_list_append mt_append (pv 1) (pa_cons (pe_lc (own := [("_law_j", 3)]) rfl sc__law_begin.nd (pi_range1 rfl W.z_range (pa_cons (pe_callB (lenK K) rfl W.z_len PySem.boot_len (pa_cons (pe_ix (ixL K) (pe_dget hu (pv 0) pe_str (fun _ _ => rfl)) (pv 2) (fun _ _ => rfl)) pa_nil)) pa_nil)) (blkOk_by (own := [("_law_j", 3)]) (by first | decide +kernel | kernel_rfl)) (fun _ _ _ _ _ => (pg_name (i := 3) sc__law_begin.nd rfl (Or.inl rfl))) (fun _ _ _ _ _ => pts_nil) (fun _ _ _ _ _ => (pe_tup (pa_cons (pe_ix ix_str pe_str (pv 2) (fun _ _ => rfl)) (pa_cons (pv 3) (pa_cons (pe_ix (ixL K) (pe_ix (ixL K) (pe_dget hu (pv 0) pe_str (fun _ _ => rfl)) (pv 2) (fun _ _ => rfl)) (pv 3) (fun _ _ => rfl)) pa_nil)))))) pa_nil)))))
  (pss_one (ps_ret (pv 1))))), ?_⟩
    walk_at "rd0"
    refine ⟨Nat.zero_le _, fun f hf => ?_⟩
    have s1 : Same H (upd H f (.lst [])) := same_new hf
    have ef : upd H f (.lst []) f = some (.lst []) := upd_same
    generalize upd H f (.lst []) = H1 at s1 ef ⊢
    walk_at "rd"
    refine ⟨d, _, rfl, (hN.same s1).gn, ?_⟩
    walk_at "rd"
    refine ⟨_, _, rfl, .inl ⟨_, SqL.of (hN.same s1).nodes, by rw [List.length_map]⟩, ?_⟩
    rw [hN.len]
    walk_at "rd"
    refine ⟨_, rfl, by omega, by omega, for_w (walk_range (lo := 0) (n := ((N.rows.length : Nat) : Int).toNat)) (fun i σ H' => Same H H' ∧ (∃ ls, HasX H' f N (beg N i) ls ∧ ∀ l ∈ ls, l.1 ≠ f ∧ ∀ t ∈ l.2, t.1 ≠ f) ∧ ∃ v, σ = [some (.ref d), some (.ref f), v, none])
      (by exact ⟨s1, ⟨[], ⟨ef, rfl, (fun _ h => nomatch h), (fun _ h => nomatch h), (fun _ h => nomatch h)⟩, (fun _ h => nomatch h)⟩, none, rfl⟩) (fun _ _ _ _ _ => trivial) ?_ ?_⟩
    · rintro i y σ H2 H3 hi ⟨s2, ⟨ls, hX, hne⟩, v, rfl⟩ ⟨rfl, rfl⟩
      have hi' : i < N.rows.length := by omega
      have hN2 := hN.same s2
      have hrow := ok.row hi'
      have hbl : (beg N i).length = i := by unfold beg; rw [List.length_map, List.length_range]
      walk_at "rd"
      refine ⟨.inl ⟨rfl, _, SqL.of hX.top⟩, ?_⟩
      walk_at "rd"
      refine ⟨d, _, rfl, hN2.gn, ?_⟩
      walk_at "rd"
      obtain ⟨a, h1, h2⟩ := hN2.row hi'
      refine r_ixL hN2.nodes i (by omega) h1 ?_
      refine ⟨_, _, rfl, .inl ⟨_, SqL.of h2, by rw [List.length_map]⟩, ?_⟩
      walk_at "rd"
      refine ⟨_, rfl, by omega, by omega, fun D hD => lc_new (walk_range (lo := 0) (n := (((N.rows.getD i []).length : Nat) : Int).toNat)) ySame_fn (by omega) hD (fun _ => true) (fun j => .tup (tri N (i, j))) (fun _ _ => trivial) ?_ fun H3 ts s3 e3 em kk nd => ?_⟩
      · rintro j x Hc H' R E hj s ⟨rfl, rfl⟩ hR hE
        have hj' : j < (N.rows.getD i []).length := by omega
        have hNc := hN2.same s
        walk_at "wp"
        walk_at "rd"
        refine ⟨rfl, ?_⟩
        walk_at "rd"
        refine r_ixS (by decide) i (by omega) (ns_at6 i (by omega)) ?_
        walk_at "rd"
        refine ⟨d, _, rfl, hNc.gn, ?_⟩
        walk_at "rd"
        refine r_ixL hNc.nodes i (by omega) h1 ?_
        walk_at "rd"
        refine r_ixL (v := tv (msgAt N (i, j))) (s _ _ h2) j (by omega) (by rw [List.getElem?_map, msgAt_get (o := (i, j)) ⟨hi', hj'⟩]; rfl) ?_
        walk_at "rd"
        refine ⟨(by show 3 ≤ sizeLine; decide), fun T hT => ?_⟩
        refine hR rfl T _ (same_new hT) hT ?_
        rw [upd_same, show (0 : Int) + ((j : Nat) : Int) = ((j : Nat) : Int) from Int.zero_add _]
        rfl
      · have emL : ts.map (·.2) = (List.range (N.rows.getD i []).length).map fun j => HO.tup (tri N (i, j)) := by
          rw [em]
          congr 1
          exact List.filter_eq_self.mpr fun _ _ => rfl
        have hlt : ts.length = (N.rows.getD i []).length := by
          have := congrArg List.length emL
          rwa [List.length_map, List.length_map, List.length_range] at this
        have hDf : D ≠ f := by
          rintro rfl
          rw [hX.top] at hD; cases hD
        have hX3 := hX.same s3
        have es : sizeLine = 16777216 := sizeLine_eq
        walk_at "rd"
        refine ⟨f, _, _, rfl, rfl, hX3.top, by rw [List.length_map, hX.len, hbl]; omega, ?_⟩
        walk_at "rd"
        have hmm : ∀ (q : Nat) (hq : q < ts.length), H3 ts[q].1 = some (.tup (tri N (i, q))) := fun q hq => by
          rw [(kk _ (List.getElem_mem hq)).2.1]
          have z1 : (ts.map (·.2))[q]? = some ts[q].2 := by rw [List.getElem?_map, List.getElem?_eq_getElem hq]; rfl
          rw [emL, List.getElem?_map, List.getElem?_range (by omega)] at z1
          exact z1.symm
        refine ⟨Same.mut (s2.trans s3) hf, ⟨ls ++ [(D, (List.range ts.length).map fun q => ((ts.getD q (0, .lst [])).1, (i, q)))], ⟨?_, ?_, fun l hl => ?_, fun l hl t ht => ?_, fun l hl t ht => ?_⟩, fun l hl => ?_⟩, _, rfl⟩
        · rw [upd_same, List.map_append]; rfl
        · rw [List.map_append, hX.eq]
          unfold beg
          rw [List.range_succ, List.map_append]
          congr 1
          show [List.map _ (List.map _ _)] = [_]
          rw [List.map_map, hlt]
          rfl
        · rcases List.mem_append.mp hl with q | q
          · rw [upd_ne (hne l q).1]
            exact hX3.row l q
          · cases List.mem_singleton.mp q
            show upd H3 f _ D = _
            rw [upd_ne hDf, e3, List.map_map]
            congr 2
            refine List.ext_getElem (by simp) fun q q1 q2 => ?_
            simp at q1 q2
            simp [q1, List.getD_eq_getElem?_getD]
        · rcases List.mem_append.mp hl with q | q
          · rw [upd_ne ((hne l q).2 t ht)]
            exact hX3.cell l q t ht
          · cases List.mem_singleton.mp q
            obtain ⟨q, hq, rfl⟩ := List.mem_map.mp ht
            have hq := List.mem_range.mp hq
            have e := hmm q hq
            show upd H3 f _ (ts.getD q _).1 = _
            rw [getD_eq hq, upd_ne (ne_of e hX3.top tup_lst), e]
        · rcases List.mem_append.mp hl with q | q
          · exact hX.ok l q t ht
          · cases List.mem_singleton.mp q
            obtain ⟨q, hq, rfl⟩ := List.mem_map.mp ht
            have hq := List.mem_range.mp hq
            exact ⟨hi', by show q < (N.rows.getD i []).length; omega⟩
        · rcases List.mem_append.mp hl with q | q
          · exact hne l q
          · cases List.mem_singleton.mp q
            refine ⟨hDf, fun t ht => ?_⟩
            obtain ⟨q, hq, rfl⟩ := List.mem_map.mp ht
            have hq := List.mem_range.mp hq
            show (ts.getD q _).1 ≠ f
            rw [getD_eq hq]
            exact ne_of (hmm q hq) hX3.top tup_lst
    · rintro σ H2 ⟨s2, ⟨ls, hX, _⟩, v, rfl⟩
      walk_at "rd"
      exact k f _ s2 hf ⟨ls, hX⟩
theorem c_sent (W : TW K mg) : Cal P w K mg base 1 "_law_sent" P__law_sent spSent := by
  obtain ⟨fd, F⟩ := W.f__law_sent
  refine ⟨_, fd, W.g__law_sent, F.kp, F.bindsN (fun _ _ _ _ _ _ us hl => match us, hl with | [_, _, _], _ => rfl), okN F sc__law_sent (fun vs H Q E h => ?_) (fun cdv A outer s H vs Q E hr h => ?_)⟩
  · obtain ⟨d, a, st, z, N, A, l, o, rfl, _⟩ := h
    rfl
  · have hu := hu_of hr
    obtain ⟨d, a, st, z, N, A, l, o, rfl, ⟨zo, hz⟩, ⟨ra, la, rs, hN⟩, ok, ⟨ls, hX, hza, hzl⟩, hAl, hst, hl, ho, hA, k⟩ := h
    have hr4 := ok.r4
    have hlk := ok.link hl
    have es : sizeLine = 16777216 := sizeLine_eq
    have ho1 := ho.1
    refine ⟨_, (pss_cons (ps_asg (pv 2) (pg_tupK K rfl (pgs_cons (pg_name (i := 3) sc__law_sent.nd rfl (Or.inl rfl)) (pgs_cons (pg_name (i := 4) sc__law_sent.nd rfl (Or.inl rfl)) (pgs_cons (pg_name (i := 5) sc__law_sent.nd rfl (Or.inl rfl)) pgs_nil)))))
  (pss_cons (ps_set (i := 6) sc__law_sent.nd rfl (Or.inl rfl) (pe_m1 PySem.F.slot_str_index PySem.F.type_str_index mt_sindex pe_str (pe_ix ix_str (pe_ix (ixL K) (pe_dget hu (pv 0) pe_str (fun _ _ => rfl)) (pv 3) (fun _ _ => rfl)) pe_int (fun _ _ => rfl))))
  (pss_cons (ps_set (i := 7) sc__law_sent.nd rfl (Or.inl rfl) (pe_ix (ixL K) (pe_ix (ixL K) (pe_dget hu (pv 0) pe_str (fun _ _ => rfl)) (pe_m1 PySem.F.slot_str_index PySem.F.type_str_index mt_sindex pe_str (pv 4)) (fun _ _ => rfl)) (pv 5) (fun _ _ => rfl)))
  (pss_one (ps_ret (pe_op op_cat (pe_op op_cat (pe_slice (slL K) (pv 1) po_none (po_some (pv 6))) (pe_lst (pa_cons (pe_op op_cat (pe_ix (ixL K) (pv 1) (pv 6) (fun _ _ => rfl)) (pe_lst (pa_cons (pe_tup (pa_cons (pv 4) (pa_cons (pv 5) (pa_cons (pv 7) pa_nil)))) pa_nil))) pa_nil))) (pe_slice (slL K) (pv 1) (po_some (pe_op op_add (pv 6) pe_int)) po_none))))))), ?_⟩
    walk_at "rd0"
    refine r_gtup hst rfl ?_
    walk_at "rd"
    refine ⟨d, _, rfl, hN.gl, ?_⟩
    walk_at "rd"
    refine r_ixL hN.links l rfl (hN.link hl) ?_
    walk_at "rd"
    refine r_ixS (lk_len _) 1 rfl (lk_1 _) ?_
    refine ⟨_, _, (N.links.getD l (0, 0)).2, [], rfl, rfl, n_index _ (by omega), ?_⟩
    generalize (N.links.getD l (0, 0)).2 = r at hlk k
    walk_at "rd"
    refine ⟨d, _, rfl, hN.gn, ?_⟩
    walk_at "rd"
    refine ⟨_, _, o.1, [], rfl, rfl, n_index _ (by omega), ?_⟩
    obtain ⟨ro, h1, h2⟩ := hN.row ho1
    refine r_ixL hN.nodes o.1 rfl h1 ?_
    walk_at "rd"
    refine r_ixL (v := tv (msgAt N o)) h2 o.2 rfl (by rw [List.getElem?_map, msgAt_get ho]; rfl) ?_
    walk_at "rd"
    have hrA : r < A.length := by omega
    obtain ⟨row, hrow, hmem, hreq⟩ := hX.at_ hrA
    have hll := hX.len
    have hrl : r < ls.length := by rw [hX.len]; exact hrA
    have hbound : row.2.length < 1000 := by
      have : A.getD r [] ∈ A := by rw [getD_eq hrA]; exact List.getElem_mem hrA
      have := hA _ this
      rw [← hreq, List.length_map] at this
      exact this
    refine ⟨_, rfl, ?_⟩
    refine ⟨a, _, rfl, SqL.of hX.top, fun f1 hf1 => ?_⟩
    rw [cut_take, ← List.map_take]
    have s1 : Same H (upd H f1 (.lst ((ls.take r).map fun l => V.ref l.1))) := same_new hf1
    have e1 : upd H f1 (.lst ((ls.take r).map fun l => V.ref l.1)) f1 = some (.lst ((ls.take r).map fun l => V.ref l.1)) := upd_same
    generalize upd H f1 (.lst ((ls.take r).map fun l => V.ref l.1)) = H1 at s1 e1 ⊢
    walk_at "rd"
    refine r_ixL (v := .ref row.1) (s1 _ _ hX.top) r rfl (by rw [List.getElem?_map, hrow]; rfl) ?_
    walk_at "rd"
    refine ⟨(by show 3 ≤ sizeLine; decide), fun T hT => ?_⟩
    have s2 : Same H1 (upd H1 T (.tup (tri N o))) := same_new hT
    have eT : upd H1 T (.tup (tri N o)) T = some (.tup (tri N o)) := upd_same
    show tNil _ (upd H1 T (.tup (tri N o))) _
    generalize upd H1 T (.tup (tri N o)) = H2 at s2 eT ⊢
    walk_at "rd"
    refine ⟨(by show 1 ≤ sizeLine; decide), fun u hu2 => ?_⟩
    have s3 : Same H2 (upd H2 u (.lst [.ref T])) := same_new hu2
    have eu : upd H2 u (.lst [.ref T]) u = some (.lst [.ref T]) := upd_same
    generalize upd H2 u (.lst [.ref T]) = H3 at s3 eu ⊢
    refine ⟨row.1, u, _, _, rfl, rfl, s3 _ _ (s2 _ _ (s1 _ _ (hX.row _ hmem))), eu, by rw [List.length_map]; show _ + 1 ≤ _; omega, fun g hg => ?_⟩
    have eg0 : (row.2.map fun t => V.ref t.1) ++ [V.ref T] = (row.2 ++ [(T, o)]).map fun t => V.ref t.1 := by rw [List.map_append]; rfl
    rw [eg0]
    have s4 : Same H3 (upd H3 g (.lst ((row.2 ++ [(T, o)]).map fun t => V.ref t.1))) := same_new hg
    have eg : upd H3 g (.lst ((row.2 ++ [(T, o)]).map fun t => V.ref t.1)) g = some (.lst ((row.2 ++ [(T, o)]).map fun t => V.ref t.1)) := upd_same
    generalize upd H3 g (.lst ((row.2 ++ [(T, o)]).map fun t => V.ref t.1)) = H4 at s4 eg ⊢
    walk_at "rd"
    refine ⟨(by show 1 ≤ sizeLine; decide), fun u2 hu3 => ?_⟩
    have s5 : Same H4 (upd H4 u2 (.lst [.ref g])) := same_new hu3
    have eu2 : upd H4 u2 (.lst [.ref g]) u2 = some (.lst [.ref g]) := upd_same
    generalize upd H4 u2 (.lst [.ref g]) = H5 at s5 eu2 ⊢
    refine ⟨f1, u2, _, _, rfl, rfl, s5 _ _ (s4 _ _ (s3 _ _ (s2 _ _ e1))), eu2, by rw [List.length_map, List.length_take]; show _ + 1 ≤ _; omega, fun f2 hf2 => ?_⟩
    have ef2 : ((ls.take r).map fun l => V.ref l.1) ++ [V.ref g] = (ls.take r ++ [(g, row.2 ++ [(T, o)])]).map fun l => V.ref l.1 := by rw [List.map_append]; rfl
    rw [ef2]
    have s6 : Same H5 (upd H5 f2 (.lst ((ls.take r ++ [(g, row.2 ++ [(T, o)])]).map fun l => V.ref l.1))) := same_new hf2
    have e6 : upd H5 f2 (.lst ((ls.take r ++ [(g, row.2 ++ [(T, o)])]).map fun l => V.ref l.1)) f2 = some (.lst ((ls.take r ++ [(g, row.2 ++ [(T, o)])]).map fun l => V.ref l.1)) := upd_same
    generalize upd H5 f2 (.lst ((ls.take r ++ [(g, row.2 ++ [(T, o)])]).map fun l => V.ref l.1)) = H6 at s6 e6 ⊢
    have s16 : Same H1 H6 := s2.trans (s3.trans (s4.trans (s5.trans s6)))
    walk_at "rd"
    refine ⟨_, rfl, ?_⟩
    walk_at "rd"
    refine ⟨a, _, rfl, SqL.of (s16 _ _ (s1 _ _ hX.top)), fun f3 hf3 => ?_⟩
    rw [show ((r : Nat) : Int) + 1 = ((r + 1 : Nat) : Int) from rfl, cut_drop, ← List.map_drop]
    have s7 : Same H6 (upd H6 f3 (.lst ((ls.drop (r + 1)).map fun l => V.ref l.1))) := same_new hf3
    have e7 : upd H6 f3 (.lst ((ls.drop (r + 1)).map fun l => V.ref l.1)) f3 = some (.lst ((ls.drop (r + 1)).map fun l => V.ref l.1)) := upd_same
    generalize upd H6 f3 (.lst ((ls.drop (r + 1)).map fun l => V.ref l.1)) = H7 at s7 e7 ⊢
    refine ⟨f2, f3, _, _, rfl, rfl, s7 _ _ e6, e7, by rw [List.length_map, List.length_map, List.length_append, List.length_take, List.length_drop]; show _ + 1 + _ ≤ _; omega, fun f4 hf4 => ?_⟩
    rw [← List.map_append]
    have eset : ls.take r ++ [(g, row.2 ++ [(T, o)])] ++ ls.drop (r + 1) = ls.set r (g, row.2 ++ [(T, o)]) := by
      rw [List.append_assoc, List.set_eq_take_append_cons_drop, if_pos hrl]; rfl
    rw [eset]
    have s8 : Same H7 (upd H7 f4 (.lst ((ls.set r (g, row.2 ++ [(T, o)])).map fun l => V.ref l.1))) := same_new hf4
    have s08 : Same H (upd H7 f4 (.lst ((ls.set r (g, row.2 ++ [(T, o)])).map fun l => V.ref l.1))) := (s1.trans s16).trans (s7.trans s8)
    have s28 : Same H2 (upd H7 f4 (.lst ((ls.set r (g, row.2 ++ [(T, o)])).map fun l => V.ref l.1))) := s3.trans (s4.trans (s5.trans (s6.trans (s7.trans s8))))
    have s48 : Same H4 (upd H7 f4 (.lst ((ls.set r (g, row.2 ++ [(T, o)])).map fun l => V.ref l.1))) := s5.trans (s6.trans (s7.trans s8))
    have hz3 := s3 _ _ (s2 _ _ (s1 _ _ hz))
    have hz7 := s7 _ _ (s16 _ _ (s1 _ _ hz))
    refine k f4 _ s08 ⟨ls.set r (g, row.2 ++ [(T, o)]), ⟨upd_same, ?_, fun x hx => ?_, fun x hx t ht => ?_, fun x hx t ht => ?_⟩, (ne_of_none hz7 hf4).symm, fun x hx => ?_⟩
    · rw [List.map_set, hX.eq, List.map_append, hreq]; rfl
    · rcases List.mem_or_eq_of_mem_set hx with q | rfl
      · exact s08 _ _ (hX.row x q)
      · exact s48 _ _ eg
    · rcases List.mem_or_eq_of_mem_set hx with q | rfl
      · exact s08 _ _ (hX.cell x q t ht)
      · rcases List.mem_append.mp ht with q | q
        · exact s08 _ _ (hX.cell row hmem t q)
        · cases List.mem_singleton.mp q
          exact s28 _ _ eT
    · rcases List.mem_or_eq_of_mem_set hx with q | rfl
      · exact hX.ok x q t ht
      · rcases List.mem_append.mp ht with q | q
        · exact hX.ok row hmem t q
        · cases List.mem_singleton.mp q
          exact ho
    · rcases List.mem_or_eq_of_mem_set hx with q | rfl
      · exact hzl x q
      · exact (ne_of_none hz3 hg).symm
theorem c_compl (W : TW K mg) : Cal P w K mg base 4 "_law_is_complete" P__law_is_complete spCompl := by
  have c__law_rank := c_rk (P := P) (w := w) (base := base) W
  have c__law_messages_of := c_msgs (P := P) (w := w) (base := base) W
  obtain ⟨fd, F⟩ := W.f__law_is_complete
  refine ⟨_, fd, W.g__law_is_complete, F.kp, F.bindsN (fun _ _ _ _ _ _ us hl => match us, hl with | [_, _], _ => rfl), okN F sc__law_is_complete (fun vs H Q E h => ?_) (fun cdv A outer s H vs Q E hr h => ?_)⟩
  · obtain ⟨d, a, N, A, rfl, _⟩ := h
    rfl
  · have hu := hu_of hr
    obtain ⟨d, a, N, A, rfl, hN, ok, ⟨ls, hX⟩, hAl, hA, k⟩ := h
    have hr4 := ok.r4
    refine ⟨_, (pss_cons (ps_set (i := 2) sc__law_is_complete.nd rfl (Or.inr rfl) (pe_cal c__law_rank (hr.mono (by decide)) (pa_cons (pe_cal c__law_messages_of (hr.mono (by decide)) (pa_cons (pv 0) (pa_cons pe_str pa_nil))) pa_nil)))
  (pss_one (ps_ret (pe_callB (allK K) rfl W.z_all (by decide +kernel) (pa_cons (pe_lc (own := [("_law_rows", 3)]) rfl sc__law_is_complete.nd (pi_listK K (pv 1)) (blkOk_by (own := [("_law_rows", 3)]) (by first | decide +kernel | kernel_rfl)) (fun _ _ _ _ _ => (pg_name (i := 3) sc__law_is_complete.nd rfl (Or.inl rfl))) (fun _ _ _ _ _ => pts_nil) (fun _ _ _ _ _ => (pe_cmpR op_eq (pe_cal c__law_rank (hr.mono (by decide)) (pa_cons (pe_lc (own := [("_law_row", 4)]) rfl sc__law_is_complete.nd (pi_listK K (pv 3)) (blkOk_by (own := [("_law_row", 4)]) (by first | decide +kernel | kernel_rfl)) (fun _ _ _ _ _ => (pg_name (i := 4) sc__law_is_complete.nd rfl (Or.inl rfl))) (fun _ _ _ _ _ => pts_nil) (fun _ _ _ _ _ => (pe_ix (ixT K) (pv 4) pe_int (fun _ _ => rfl)))) pa_nil)) (pv 2) (nomark _)))) pa_nil))))), ?_⟩
    walk_at "rd0"
    refine ⟨d, N, 63, by rw [ns_all]; rfl, hN, ok, by decide, fun b H1 s1 hb e1 => ?_⟩
    walk_at "rd"
    refine ⟨b, _, rfl, e1, ok.msgs16, fun H2 s2 => ?_⟩
    have s02 := s1.trans s2
    have hX2 := hX.same s02
    have hll := hX.len
    walk_at "rd"
    refine ⟨a, rfl, ⟨_, SqL.of hX2.top⟩, fun D hD => lc_all walk_list ySame_at (by rw [List.length_map]; omega) hD (fun i => .bl (decide (rk ((A.getD i []).map (msgAt N)) = rk (msgs N 63)))) (fun H3 s3 => SqL.of (s3 _ _ hX2.top)) ?_ fun H3 s3 e3 => ?_⟩
    · rintro i z Hc H' R E hi s ⟨rfl, hz⟩ hR
      rw [List.length_map] at hi
      rw [List.getElem?_map, List.getElem?_eq_getElem hi] at hz
      cases hz
      obtain ⟨l, hl1, hl2, hl3⟩ := hX.at_ (i := i) (by omega)
      rw [List.getElem?_eq_getElem hi] at hl1
      cases hl1
      have hXc := hX2.same s
      have hrow := hXc.row _ hl2
      have hbound : ls[i].2.length < 1000 := by
        have : A.getD i [] ∈ A := by rw [getD_eq (by omega)]; exact List.getElem_mem _
        have := hA _ this
        rw [← hl3, List.length_map] at this
        exact this
      walk_at "wp"
      walk_at "rd"
      refine ⟨rfl, ?_⟩
      walk_at "rd"
      refine ⟨_, rfl, ⟨_, SqL.of hrow⟩, fun D2 hD2 => lc_all walk_list ySame_at (by rw [List.length_map]; omega) hD2 (fun j => tv (msgAt N ((A.getD i []).getD j (0, 0)))) (fun H3 s3 => SqL.of (s3 _ _ hrow)) ?_ fun H3 s3 e3 => ?_⟩
      · rintro j z Hd Hd' R2 E2 hj sd ⟨rfl, hz⟩ hR2
        rw [List.length_map] at hj
        rw [List.getElem?_map, List.getElem?_eq_getElem hj] at hz
        cases hz
        have hc := hXc.cell _ hl2 _ (List.getElem_mem hj)
        have e : (A.getD i []).getD j (0, 0) = ls[i].2[j].2 := by
          rw [← hl3, List.getD_eq_getElem?_getD, List.getElem?_map, List.getElem?_eq_getElem hj]; rfl
        rw [e] at hR2
        walk_at "wp"
        walk_at "rd"
        refine ⟨rfl, ?_⟩
        walk_at "rd"
        refine r_ixT (v := tv (msgAt N ls[i].2[j].2)) (sd _ _ hc) 2 rfl rfl ?_
        exact hR2 _ (Same.refl _)
      · have eA : (A.getD i []).length = ls[i].2.length := by rw [← hl3, List.length_map]
        have e3' : H3 D2 = some (.lst (((A.getD i []).map (msgAt N)).map tv)) := by
          rw [e3, List.length_map, ← eA]
          congr 2
          refine List.ext_getElem (by simp) fun j q1 q2 => ?_
          simp at q1 q2
          simp [q1, List.getD_eq_getElem?_getD]
        walk_at "rd"
        refine ⟨D2, _, rfl, e3', fun m hm => ?_, fun H4 s4 => ?_⟩
        · obtain ⟨o, ho, rfl⟩ := List.mem_map.mp hm
          rw [← hl3] at ho
          obtain ⟨t, ht, rfl⟩ := List.mem_map.mp ho
          exact pow16 ok.v (msgAt_lt ok (hX.ok _ hl2 t ht)).2
        · walk_at "rd"
          have ed : decide (((rk ((A.getD i []).map (msgAt N)) : Nat) : Int) = ((rk (msgs N 63) : Nat) : Int)) = decide (rk ((A.getD i []).map (msgAt N)) = rk (msgs N 63)) := by
            by_cases c : rk ((A.getD i []).map (msgAt N)) = rk (msgs N 63)
            · rw [decide_eq_true c, decide_eq_true (by omega)]
            · rw [decide_eq_false c, decide_eq_false (by omega)]
          rw [ed]
          exact hR _ (s3.trans s4)
    · walk_at "rd"
      have e4 : H3 D = some (.lst ((A.map fun r => decide (rk (r.map (msgAt N)) = rk (msgs N 63))).map V.bl)) := by
        rw [e3, List.length_map, hll, List.map_map]
        congr 2
        refine List.ext_getElem (by simp) fun j q1 q2 => ?_
        simp at q1 q2
        simp [q1, List.getD_eq_getElem?_getD]
      refine ⟨D, _, rfl, SqL.of e4, ?_⟩
      rw [List.all_map]
      exact k _ (s02.trans s3)
end
end Kn
set_option Elab.async false
set_option linter.all false
set_option maxRecDepth 100000
set_option maxHeartbeats 4000000
namespace Kn
open PySem PySem.Spec PyProof.Rows L2
local macro_rules | `(tactic| walk_at "hp") => `(tactic| first | assumption | exact upd_same | (rw [upd_ne (by assumption)]; walk_at "hp"))
local macro_rules | `(tactic| walk_at "r1") => `(tactic| first
  | with_reducible refine r_seq ?_
  | with_reducible refine r_asg ?_
  | (with_reducible refine r_name ?_; try dsimp only [List.set_cons_succ, List.set_cons_zero])
  | ((with_reducible refine' r_var (v := ?v1) ?h1 ?q1); (case h1 => exact rfl))
  | with_reducible refine r_c ?_
  | with_reducible refine r_op ?_
  | with_reducible refine r_un ?_
  | with_reducible refine r_I0 ?_
  | with_reducible refine r_U ?_
  | with_reducible refine r_ret ?_
  | with_reducible refine r_retN ?_
  | with_reducible refine r_drop ?_
  | with_reducible refine r_next ?_
  | with_reducible refine r_brk ?_
  | with_reducible refine r_cons ?_
  | with_reducible refine r_nil ?_
  | with_reducible refine r_cb ?_
  | with_reducible refine r_ckw ?_
  | with_reducible refine r_test ?_
  | with_reducible refine r_B ?_
  | with_reducible refine r_blN ?_
  | with_reducible refine r_bl ?_
  | with_reducible refine r_ifS ?_
  | with_reducible refine r_if ?_
  | with_reducible refine r_not ?_
  | with_reducible refine r_and ?_
  | with_reducible refine r_or ?_
  | with_reducible refine r_andV ?_
  | with_reducible refine r_andB ?_
  | with_reducible refine r_notV ?_
  | with_reducible refine r_notB ?_
  | with_reducible refine r_call ?_
  | with_reducible refine r_make ?_
  | with_reducible refine r_meth ?_
  | with_reducible refine r_fld ?_
  | with_reducible refine r_tup ?_
  | with_reducible refine r_lst ?_
  | with_reducible refine r_sub ?_
  | with_reducible refine r_sl ?_
  | with_reducible refine r_nop ?_
  | with_reducible refine r_part ?_
  | with_reducible refine r_pti ?_
  | with_reducible refine r_bm ?_
  | with_reducible refine r_m1 ?_
  | with_reducible refine r_m1s ?_
  | with_reducible refine r_dget ?_
  | with_reducible refine r_eq ?_
  | with_reducible refine r_ne ?_
  | with_reducible refine r_eqS ?_
  | with_reducible refine r_neS ?_
  | with_reducible refine r_for ?_
  | with_reducible refine r_lc ?_
  | with_reducible refine r_yes ?_
  | with_reducible refine r_iStr ?_
  | with_reducible refine r_iList ?_
  | with_reducible refine r_iTup ?_
  | with_reducible refine r_iSq ?_
  | with_reducible refine r_iRng ?_
  | with_reducible refine r_iEnumQ ?_
  | with_reducible refine r_iEnumS ?_
  | with_reducible refine r_iEnum ?_
  | with_reducible refine r_iZip ?_
  | with_reducible refine r_tr ?_
  | with_reducible refine r_iSqK ?_
  | with_reducible refine r_fldS ?_
  | with_reducible refine r_dput ?_
  | with_reducible refine r_din ?_
  | with_reducible refine r_gcons ?_
  | with_reducible refine r_gnil ?_
  | with_reducible refine r_gtup upd_same rfl ?_
  | with_reducible refine r_chain ?_
  | with_reducible refine iteT ?_
  | with_reducible refine iteF ?_)
local macro_rules | `(tactic| walk_at "wp") => `(tactic| dsimp only [wipe, List.map_cons, List.map_nil, List.set_cons_succ, List.set_cons_zero])
local macro_rules | `(tactic| walk_at "rd") => `(tactic| repeat (walk_at "r1"))
local macro_rules | `(tactic| walk_at "rd0") => `(tactic| (simp only [L2.start, List.map_cons, List.map_nil, List.length_cons, List.length_nil, Nat.reduceAdd, Nat.reduceSub, List.replicate_succ, List.replicate_zero, List.nil_append, List.cons_append]; repeat (walk_at "r1")))
local macro_rules | `(tactic| walk_at "wp") => `(tactic| dsimp only [wipe, List.map_cons, List.map_nil, List.set_cons_succ, List.set_cons_zero])
/-! ### _law_possible -/
theorem hu65_of {k : Nat} {A : Around} (hr : Room k A) : A.units + 65 < cLine := by have := hr.un; omega
abbrev Tr := Nat × Org
abbrev trV (t : Tr) : List V := [iN t.1, .str (nl t.2.1), iN t.2.2]
def trD (t : Tr) : PyData := .tuple [.int (t.1 : Nat), .str (nl t.2.1), .int (t.2.2 : Nat)]
theorem strOk_nl : ∀ i < 6, (PyData.str (nl i)).canLay0 = true := by decide +kernel
theorem trD_lay {t : Tr} (h : t.2.1 < 6) : (trD t).canLay0 = true := by
  have this : PyData.strOk (nl t.2.1) = true := strOk_nl t.2.1 h
  show PyData.canLayAll0 [.int _, .str _, .int _] = true
  simp only [PyData.canLayAll0, PyData.canLay0, this, Bool.and_true, Bool.true_and]
theorem trD_depth (t : Tr) : (trD t).depth = 1 := by
  simp [trD, PyData.depth, PyData.depthAll]
theorem trD_sh {t : Tr} (h : t.2.1 < 6) : SeqAt.shaped (trD t) = true := by
  unfold SeqAt.shaped
  rw [trD_lay h, trD_depth]
  rfl
theorem trDs_lay : ∀ {ts : List Tr}, (∀ t ∈ ts, t.2.1 < 6) → PyData.canLayAll0 (ts.map trD) = true
  | [], _ => rfl
  | t :: r, h => by
    show ((trD t).canLay0 && PyData.canLayAll0 (r.map trD)) = true
    rw [trD_lay (h t List.mem_cons_self), trDs_lay fun x hx => h x (List.mem_cons_of_mem _ hx)] <;> rfl
theorem trDs_depth : ∀ (ts : List Tr), PyData.depthAll (ts.map trD) ≤ 1
  | [] => by show 0 ≤ 1; decide
  | t :: r => by
    show max (trD t).depth (PyData.depthAll (r.map trD)) ≤ 1
    rw [trD_depth]
    have := trDs_depth r
    omega
theorem trDs_sh {ts : List Tr} (h : ∀ t ∈ ts, t.2.1 < 6) : SeqAt.shaped (.list (ts.map trD)) = true := by
  unfold SeqAt.shaped
  have h1 : (PyData.list (ts.map trD)).canLay0 = true := trDs_lay h
  have h2 : (PyData.list (ts.map trD)).depth ≤ 64 := by
    have := trDs_depth ts
    show PyData.depthAll (ts.map trD) + 1 ≤ 64
    omega
  rw [h1, decide_eq_true h2]
  rfl
theorem dp_tr {K : PySem.W.Frag} {H : Hp} {a : Addr} {t : Tr} (e : H a = some (.tup (trV t))) : Dp K H (.ref a) (trD t) :=
  .tup (SqT.of e) (.cons (.int _) (.cons (.str _) (.cons (.int _) .nil)))
theorem dp_trs {K : PySem.W.Frag} {H : Hp} : ∀ {ts : List (Addr × Tr)}, (∀ t ∈ ts, H t.1 = some (.tup (trV t.2))) → DpAll K H (ts.map fun t => .ref t.1) ((ts.map (·.2)).map trD)
  | [], _ => .nil
  | t :: r, h => .cons (dp_tr (h t List.mem_cons_self)) (dp_trs fun x hx => h x (List.mem_cons_of_mem _ hx))
def trOK (N : Net) (A : List (List Org)) (us : List Nat) (t : Tr) : Prop := t.1 < N.links.length ∧ t.1 ∉ us ∧ orgOK N t.2 ∧ t.2 ∈ A.getD (N.links.getD t.1 (0, 0)).1 [] ∧ mem ((A.getD (N.links.getD t.1 (0, 0)).2 []).map (msgAt N)) (msgAt N t.2) = false
def spPoss : Sp := fun vs H Q _ => ∃ (d a u : Addr) (N : Net) (A : List (List Org)) (us : List Nat), vs = [.ref d, .ref a, .ref u] ∧ NetAt H d N ∧ NetOK N ∧ HasA H a N A ∧ A.length = N.rows.length ∧ (∀ r ∈ A, r.length ≤ 14) ∧ H u = some (.lst (us.map iN)) ∧
  ∀ f (ts : List (Addr × Tr)) H', Same H H' → H f = none → H' f = some (.lst (ts.map fun t => .ref t.1)) → ts.length ≤ 140 → (∀ t ∈ ts, H' t.1 = some (.tup (trV t.2)) ∧ trOK N A us t.2) → Q (.ref f) H'
theorem iN_flat (us : List Nat) : (us.map iN).all flatV = true := by
  rw [List.all_map, List.all_eq_true]
  intro x _
  rfl
theorem inV_iN {l : Nat} {us : List Nat} : inV (iN l) (us.map iN) = decide (l ∈ us) := by
  unfold inV
  rw [List.any_map]
  by_cases h : l ∈ us
  · rw [decide_eq_true h, List.any_eq_true]
    exact ⟨l, h, by show ((l : Int) == (l : Int)) = true; simp⟩
  · rw [decide_eq_false h, List.any_eq_false]
    intro x hx e
    have e' : ((x : Int) == (l : Int)) = true := e
    have e2 : (x : Int) = (l : Int) := eq_of_beq e'
    exact h ((by omega : x = l) ▸ hx)
section
variable {P : Program} {w : World} {K : PySem.W.Frag} {mg : Str → Option Value} {base : Heap}
theorem c_poss (W : TW K mg) : Cal P w K mg base 3 "_law_possible" P__law_possible spPoss := by
  have c__law_derived := c_der (P := P) (w := w) (base := base) W
  obtain ⟨fd, F⟩ := W.f__law_possible
  refine ⟨_, fd, W.g__law_possible, F.kp, F.bindsN (fun _ _ _ _ _ _ us hl => match us, hl with | [_, _, _], _ => rfl), okN F sc__law_possible (fun vs H Q E h => ?_) (fun cdv A outer s H vs Q E hr h => ?_)⟩
  · obtain ⟨d, a, u, N, A, us, rfl, _⟩ := h
    rfl
  · have hu := hu_of hr
    have hu65 := hu65_of hr
    obtain ⟨d, a, u, N, A, us, rfl, ⟨ra, la, rs, hN⟩, ok, ⟨ls, hX⟩, hAl, hA, hus, k⟩ := h
    have hr4 := ok.r4
    have h10 := ok.l10
    have es : sizeLine = 16777216 := sizeLine_eq
    refine ⟨_, (pss_cons (ps_set (i := 3) sc__law_possible.nd rfl (Or.inl rfl) (pe_lst pa_nil))
  (pss_cons (ps_for PassesOwn.never rfl (pi_range1 rfl W.z_range (pa_cons (pe_callB (lenK K) rfl W.z_len PySem.boot_len (pa_cons (pe_dget hu (pv 0) pe_str (fun _ _ => rfl)) pa_nil)) pa_nil)) (pg_name (i := 4) sc__law_possible.nd rfl (Or.inl rfl))
   (pss_one (ps_if (pt_cmpR (notInQ K) (pv 4) (pv 2) rfl)
   (pss_cons (ps_set (i := 5) sc__law_possible.nd rfl (Or.inl rfl) (pe_m1 PySem.F.slot_str_index PySem.F.type_str_index mt_sindex pe_str (pe_ix ix_str (pe_ix (ixL K) (pe_dget hu (pv 0) pe_str (fun _ _ => rfl)) (pv 4) (fun _ _ => rfl)) pe_int (fun _ _ => rfl))))
  (pss_cons (ps_set (i := 6) sc__law_possible.nd rfl (Or.inl rfl) (pe_m1 PySem.F.slot_str_index PySem.F.type_str_index mt_sindex pe_str (pe_ix ix_str (pe_ix (ixL K) (pe_dget hu (pv 0) pe_str (fun _ _ => rfl)) (pv 4) (fun _ _ => rfl)) pe_int (fun _ _ => rfl))))
  (pss_cons (ps_set (i := 7) sc__law_possible.nd rfl (Or.inl rfl) (pe_cal c__law_derived (hr.mono (by decide)) (pa_cons (pe_lc (own := [("_law_row", 11)]) rfl sc__law_possible.nd (pi_listK K (pe_ix (ixL K) (pv 1) (pv 6) (fun _ _ => rfl))) (blkOk_by (own := [("_law_row", 11)]) (by first | decide +kernel | kernel_rfl)) (fun _ _ _ _ _ => (pg_name (i := 11) sc__law_possible.nd rfl (Or.inl rfl))) (fun _ _ _ _ _ => pts_nil) (fun _ _ _ _ _ => (pe_ix (ixT K) (pv 11) pe_int (fun _ _ => rfl)))) pa_nil)))
  (pss_one (ps_for PassesOwn.never rfl (pi_listK K (pe_callB (sortedMK K) rfl W.z_sorted (by decide +kernel) (pa_cons (pe_ix (ixL K) (pv 1) (pv 5) (fun _ _ => rfl)) pa_nil))) (pg_tupK K rfl (pgs_cons (pg_name (i := 8) sc__law_possible.nd rfl (Or.inl rfl)) (pgs_cons (pg_name (i := 9) sc__law_possible.nd rfl (Or.inl rfl)) (pgs_cons (pg_name (i := 10) sc__law_possible.nd rfl (Or.inl rfl)) pgs_nil))))
   (pss_one (ps_if (PW.pt (pw_and (pt_cmpR (notInQ K) (pv 10) (pv 7) rfl) (pw_and1 (pt_cmpR (notInDK K hu65) (pe_tup (pa_cons (pv 4) (pa_cons (pv 8) (pa_cons (pv 9) pa_nil)))) (pv 3) rfl))))
   (pss_one (ps_expr (pe_bmK K PySem.F.plainAttrs_list PySem.F.slot_list_append PySem.F.type_list_append mt_append (pv 3) (pa_cons (pe_tup (pa_cons (pv 4) (pa_cons (pv 8) (pa_cons (pv 9) pa_nil)))) pa_nil))))
   pss_nil)))))))
   pss_nil)))
  (pss_one (ps_ret (pv 3))))), ?_⟩
    walk_at "rd0"
    refine ⟨Nat.zero_le _, fun f hf => ?_⟩
    have s1 : Same H (upd H f (.lst [])) := same_new hf
    have ef : upd H f (.lst []) f = some (.lst []) := upd_same
    generalize upd H f (.lst []) = H1 at s1 ef ⊢
    walk_at "rd"
    refine ⟨d, _, rfl, (hN.same s1).gl, ?_⟩
    walk_at "rd"
    refine ⟨_, _, rfl, .inl ⟨_, SqL.of (hN.same s1).links, by rw [List.length_map]⟩, ?_⟩
    walk_at "rd"
    refine ⟨_, rfl, by omega, by omega, for_w (walk_range (lo := 0) (n := ((N.links.length : Nat) : Int).toNat)) (fun i σ H' => Same H H' ∧ (∃ ts : List (Addr × Tr), H' f = some (.lst (ts.map fun t => .ref t.1)) ∧ ts.length ≤ 14 * i ∧ ∀ t ∈ ts, t.1 ≠ f ∧ H' t.1 = some (.tup (trV t.2)) ∧ trOK N A us t.2) ∧ ∃ v1 v2 v3 v4 v5 v6 v7, σ = [some (.ref d), some (.ref a), some (.ref u), some (.ref f), v1, v2, v3, v4, v5, v6, v7, none])
      (by exact ⟨s1, ⟨[], ef, Nat.zero_le _, (fun _ h => nomatch h)⟩, none, none, none, none, none, none, none, rfl⟩) (fun _ _ _ _ _ => trivial) ?_ ?_⟩
    · rintro i y σ H2 H3 hi ⟨s2, ⟨ts, ets, htl, hts⟩, v1, v2, v3, v4, v5, v6, v7, rfl⟩ ⟨rfl, rfl⟩
      have hi' : i < N.links.length := by omega
      have hN2 := hN.same s2
      have hX2 := hX.same s2
      have hlk := ok.link hi'
      dsimp only
      rw [show (0 : Int) + ((i : Nat) : Int) = ((i : Nat) : Int) from Int.zero_add _]
      walk_at "rd"
      refine ⟨u, _, rfl, .inl (SqL.of (s2 _ _ hus)), rfl, iN_flat _, ?_⟩
      rw [if_pos rfl, inV_iN]
      walk_at "rd"
      refine iteN (fun cu => ?_) (fun cu => ?_)
      · walk_at "rd"
        refine ⟨d, _, rfl, hN2.gl, ?_⟩
        walk_at "rd"
        refine r_ixL hN2.links i rfl (hN2.link hi') ?_
        walk_at "rd"
        refine r_ixS (lk_len _) 0 rfl (lk_0 _) ?_
        refine ⟨_, _, (N.links.getD i (0, 0)).1, [], rfl, rfl, n_index _ (by omega), ?_⟩
        walk_at "rd"
        refine ⟨d, _, rfl, hN2.gl, ?_⟩
        walk_at "rd"
        refine r_ixL hN2.links i rfl (hN2.link hi') ?_
        walk_at "rd"
        refine r_ixS (lk_len _) 1 rfl (lk_1 _) ?_
        refine ⟨_, _, (N.links.getD i (0, 0)).2, [], rfl, rfl, n_index _ (by omega), ?_⟩
        walk_at "rd"
        obtain ⟨row, hrow, hmem, hreq⟩ := hX2.at_ (i := (N.links.getD i (0, 0)).2) (by omega)
        obtain ⟨srw, hsrw, hsmem, hsreq⟩ := hX2.at_ (i := (N.links.getD i (0, 0)).1) (by omega)
        have bnd : ∀ {x : HL} {q : Nat}, q < A.length → x.2.map (·.2) = A.getD q [] → x.2.length ≤ 14 := fun {x q} hq e => by
          have : A.getD q [] ∈ A := by rw [getD_eq hq]; exact List.getElem_mem hq
          have := hA _ this
          rw [← e, List.length_map] at this
          exact this
        have hb1 := bnd (by omega) hreq
        have hb2 := bnd (by omega) hsreq
        refine r_ixL (v := .ref row.1) hX2.top _ rfl (by rw [List.getElem?_map, hrow]; rfl) ?_
        refine ⟨_, rfl, ⟨_, SqL.of (hX2.row _ hmem)⟩, fun D hD => lc_all walk_list ySame_at (by rw [List.length_map]; omega) hD (fun j => tv (msgAt N ((A.getD (N.links.getD i (0, 0)).2 []).getD j (0, 0)))) (fun H3 s3 => SqL.of (s3 _ _ (hX2.row _ hmem))) ?_ fun H3 s3 e3 => ?_⟩
        · rintro j z Hd Hd' R2 E2 hj sd ⟨rfl, hz⟩ hR2
          rw [List.length_map] at hj
          rw [List.getElem?_map, List.getElem?_eq_getElem hj] at hz
          cases hz
          have hc := hX2.cell _ hmem _ (List.getElem_mem hj)
          have e : (A.getD (N.links.getD i (0, 0)).2 []).getD j (0, 0) = row.2[j].2 := by
            rw [← hreq, List.getD_eq_getElem?_getD, List.getElem?_map, List.getElem?_eq_getElem hj]; rfl
          rw [e] at hR2
          walk_at "wp"
          walk_at "rd"
          refine ⟨rfl, ?_⟩
          walk_at "rd"
          refine r_ixT (v := tv (msgAt N row.2[j].2)) (sd _ _ hc) 2 rfl rfl ?_
          exact hR2 _ (Same.refl _)
        · generalize hAr : A.getD (N.links.getD i (0, 0)).2 [] = Ar at hreq e3
          have eA : Ar.length = row.2.length := by rw [← hreq, List.length_map]
          have e3' : H3 D = some (.lst ((Ar.map (msgAt N)).map tv)) := by
            rw [e3, List.length_map, ← eA]
            congr 2
            refine List.ext_getElem (by simp) fun j q1 q2 => ?_
            simp at q1 q2
            simp [q1, List.getD_eq_getElem?_getD]
          have hlt16 : ∀ m ∈ Ar.map (msgAt N), m < 16 := fun m hm => by
            obtain ⟨o, ho, rfl⟩ := List.mem_map.mp hm
            rw [← hreq] at ho
            obtain ⟨t, ht, rfl⟩ := List.mem_map.mp ho
            exact pow16 ok.v (msgAt_lt ok (hX.ok _ hmem t ht)).2
          walk_at "rd"
          refine ⟨D, _, rfl, e3', hlt16, fun hd L H4 s4 hhd eL hSp => ?_⟩
          have hL16 := hSp.lt hlt16
          have s24 := s3.trans s4
          walk_at "rd"
          refine r_ixL (v := .ref srw.1) (s24 _ _ hX2.top) _ rfl (by rw [List.getElem?_map, hsrw]; rfl) ?_
          refine ⟨srw.1, srw.2.map (·.1), true, [false, true], rfl, SqL.of (by rw [List.map_map]; exact s24 _ _ (hX2.row _ hsmem)), fun t ht => ?_, fun ys dd hp hdd => ?_⟩
          · obtain ⟨x, hx, rfl⟩ := List.mem_map.mp ht
            exact ⟨tri N x.2, trivial, s24 _ _ (hX2.cell _ hsmem x hx)⟩
          · obtain ⟨ts2, hp2, rfl⟩ := perm_lift hp rfl
            have h14 : ts2.length ≤ 14 := by rw [hp2.length_eq]; exact hb2
            have s5 : Same H4 (upd H4 dd (.lst ((ts2.map (·.1)).map V.ref))) := same_new hdd
            have edd : upd H4 dd (.lst ((ts2.map (·.1)).map V.ref)) dd = some (.lst ((ts2.map (·.1)).map V.ref)) := upd_same
            generalize upd H4 dd (.lst ((ts2.map (·.1)).map V.ref)) = H5 at s5 edd ⊢
            have s25 := s24.trans s5
            have hdf : dd ≠ f := (ne_of_none (s24 _ _ ets) hdd).symm
            have hhf : hd ≠ f := (ne_of_none (s3 _ _ ets) hhd).symm
            have k5 : ∀ {b o}, H5 b = some o → b ≠ f → ∀ (H6 : Hp), (∀ b o, b ≠ f → H5 b = some o → H6 b = some o) → H6 b = some o := fun e n H6 k => k _ _ n e
            refine ⟨dd, rfl, ⟨_, SqL.of edd⟩, for_w walk_list (fun j σ H' => (∀ b o, b ≠ f → H5 b = some o → H' b = some o) ∧ Same H H' ∧ (∃ ts : List (Addr × Tr), H' f = some (.lst (ts.map fun t => .ref t.1)) ∧ ts.length ≤ 14 * i + j ∧ ∀ t ∈ ts, t.1 ≠ f ∧ H' t.1 = some (.tup (trV t.2)) ∧ trOK N A us t.2) ∧ ∃ v5 v6 v7, σ = [some (.ref d), some (.ref a), some (.ref u), some (.ref f), some (iN i), some (iN (N.links.getD i (0, 0)).1), some (iN (N.links.getD i (0, 0)).2), some (.ref hd), v5, v6, v7, none])
              (by exact ⟨fun b o _ e => e, s2.trans s25, ⟨ts, s25 _ _ ets, Nat.le_add_right_of_le htl, fun t ht => ⟨(hts t ht).1, s25 _ _ (hts t ht).2.1, (hts t ht).2.2⟩⟩, v5, v6, v7, rfl⟩) (fun j σ H' _ q => SqL.of (q.1 _ _ hdf edd)) ?_ ?_⟩
            · rintro j z σ H0 H6 hj ⟨k6, s6, ⟨ts6, e6, hl6, h6⟩, v5, v6, v7, rfl⟩ ⟨rfl, hz⟩
              rw [List.length_map, List.length_map] at hj
              rw [List.getElem?_map, List.getElem?_map, List.getElem?_eq_getElem hj] at hz
              cases hz
              have hm2 : ts2[j] ∈ srw.2 := hp2.mem_iff.mp (List.getElem_mem hj)
              have hc2 := hX2.cell _ hsmem _ hm2
              have ho2 := hX2.ok _ hsmem _ hm2
              have hcf : ts2[j].1 ≠ f := ne_of hc2 ets tup_lst
              have hc6 := k6 _ _ hcf (s25 _ _ hc2)
              have eL6 := k6 _ _ hhf (s5 _ _ eL)
              refine r_gtup hc6 rfl ?_
              walk_at "rd"
              refine ⟨hd, _, rfl, .inl (SqL.of eL6), rfl, all_flat_txt L, ?_⟩
              have hm16 : msgAt N ts2[j].2 < 16 := pow16 ok.v (msgAt_lt ok ho2).2
              rw [if_pos rfl, inV_txt hm16 hL16]
              walk_at "rd"
              refine iteN (fun cL => ?_) (fun cL => ?_)
              · walk_at "rd"
                refine ⟨(by show 3 ≤ sizeLine; decide), fun T hT => ?_⟩
                have sT : Same H6 (upd H6 T (.tup (trV (i, ts2[j].2)))) := same_new hT
                have eT : upd H6 T (.tup (trV (i, ts2[j].2))) T = some (.tup (trV (i, ts2[j].2))) := upd_same
                show tVar 3 _ (upd H6 T (.tup (trV (i, ts2[j].2)))) _
                generalize upd H6 T (.tup (trV (i, ts2[j].2))) = H7 at sT eT ⊢
                walk_at "rd"
                have ho6 : ∀ t ∈ ts6.map (·.2), t.2.1 < 6 := fun t ht => by
                  obtain ⟨q, hq, rfl⟩ := List.mem_map.mp ht
                  have := (h6 q hq).2.2.2.2.1.1
                  omega
                have ho21 := ho2.1
                refine ⟨trD (i, ts2[j].2), (ts6.map (·.2)).map trD, dp_tr eT, .lst (SqL.of (sT _ _ e6)) (dp_trs fun t ht => sT _ _ (h6 t ht).2.1), trD_sh (by show ts2[j].2.1 < 6; omega), trDs_sh ho6, ?_⟩
                generalize ((ts6.map (·.2)).map trD).any (fun z => PyData.eqv z (trD (i, ts2[j].2))) = bb
                walk_at "rd"
                have s67 := s6.trans sT
                cases bb with
                | false =>
                  refine iteT ?_
                  walk_at "rd"
                  refine ⟨.inl ⟨rfl, _, SqL.of (sT _ _ e6)⟩, ?_⟩
                  walk_at "rd"
                  refine ⟨(by show 3 ≤ sizeLine; decide), fun T2 hT2 => ?_⟩
                  have sT2 : Same H7 (upd H7 T2 (.tup (trV (i, ts2[j].2)))) := same_new hT2
                  have eT2 : upd H7 T2 (.tup (trV (i, ts2[j].2))) T2 = some (.tup (trV (i, ts2[j].2))) := upd_same
                  show tNil _ (upd H7 T2 (.tup (trV (i, ts2[j].2)))) _
                  generalize upd H7 T2 (.tup (trV (i, ts2[j].2))) = H8 at sT2 eT2 ⊢
                  have s68 := sT.trans sT2
                  have hTf : T2 ≠ f := ne_of eT2 (s68 _ _ e6) tup_lst
                  walk_at "rd"
                  refine ⟨f, _, _, rfl, rfl, s68 _ _ e6, by rw [List.length_map]; omega, ?_⟩
                  walk_at "rd"
                  refine ⟨fun b o nb e => by rw [upd_ne nb]; exact s68 _ _ (k6 _ _ nb e), Same.mut (s6.trans s68) hf, ⟨ts6 ++ [(T2, (i, ts2[j].2))], by rw [upd_same, List.map_append]; rfl, by rw [List.length_append]; show _ + 1 ≤ _; omega, fun t ht => ?_⟩, _, _, _, rfl⟩
                  rcases List.mem_append.mp ht with q | q
                  · obtain ⟨q1, q2, q3⟩ := h6 t q
                    exact ⟨q1, by rw [upd_ne q1]; exact s68 _ _ q2, q3⟩
                  · cases List.mem_singleton.mp q
                    refine ⟨hTf, by show upd H8 f _ T2 = _; rw [upd_ne hTf]; exact eT2, hi', cu, ho2, ?_, ?_⟩
                    · show ts2[j].2 ∈ A.getD (N.links.getD i (0, 0)).1 []
                      rw [← hsreq]
                      exact List.mem_map.mpr ⟨_, hm2, rfl⟩
                    · show mem ((A.getD (N.links.getD i (0, 0)).2 []).map (msgAt N)) (msgAt N ts2[j].2) = false
                      rw [hAr]
                      cases cm : mem (Ar.map (msgAt N)) (msgAt N ts2[j].2) with
                      | false => rfl
                      | true => exact absurd ((hSp.iff _).mpr cm) cL
                | true =>
                  refine iteF ?_
                  walk_at "rd"
                  exact ⟨fun b o nb e => sT _ _ (k6 _ _ nb e), s67, ⟨ts6, sT _ _ e6, by omega, fun t ht => ⟨(h6 t ht).1, sT _ _ (h6 t ht).2.1, (h6 t ht).2.2⟩⟩, _, _, _, rfl⟩
              · walk_at "rd"
                exact ⟨k6, s6, ⟨ts6, e6, by omega, h6⟩, _, _, _, rfl⟩
            · rintro σ H6 ⟨k6, s6, ⟨ts6, e6, hl6, h6⟩, v5, v6, v7, rfl⟩
              rw [List.length_map, List.length_map] at hl6
              walk_at "rd"
              exact ⟨s6, ⟨ts6, e6, by omega, h6⟩, _, _, _, _, _, _, _, rfl⟩
      · walk_at "rd"
        exact ⟨s2, ⟨ts, ets, by omega, hts⟩, _, _, _, _, _, _, _, rfl⟩
    · rintro σ H2 ⟨s2, ⟨ts, ets, htl, hts⟩, v1, v2, v3, v4, v5, v6, v7, rfl⟩
      walk_at "rd"
      exact k f ts _ s2 hf ets (by omega) fun t ht => (hts t ht).2
end
end Kn
set_option Elab.async false
set_option linter.all false
set_option maxRecDepth 100000
set_option maxHeartbeats 4000000
namespace Kn
open PySem PySem.Spec PyProof.Rows L2
local macro_rules | `(tactic| walk_at "hp") => `(tactic| first | assumption | exact upd_same | (rw [upd_ne (by assumption)]; walk_at "hp"))
local macro_rules | `(tactic| walk_at "r1") => `(tactic| first
  | with_reducible refine r_seq ?_
  | with_reducible refine r_asg ?_
  | (with_reducible refine r_name ?_; try dsimp only [List.set_cons_succ, List.set_cons_zero])
  | ((with_reducible refine' r_var (v := ?v1) ?h1 ?q1); (case h1 => exact rfl))
  | with_reducible refine r_c ?_
  | with_reducible refine r_op ?_
  | with_reducible refine r_un ?_
  | with_reducible refine r_I0 ?_
  | with_reducible refine r_U ?_
  | with_reducible refine r_ret ?_
  | with_reducible refine r_retN ?_
  | with_reducible refine r_drop ?_
  | with_reducible refine r_next ?_
  | with_reducible refine r_brk ?_
  | with_reducible refine r_cons ?_
  | with_reducible refine r_nil ?_
  | with_reducible refine r_cb ?_
  | with_reducible refine r_ckw ?_
  | with_reducible refine r_test ?_
  | with_reducible refine r_B ?_
  | with_reducible refine r_blN ?_
  | with_reducible refine r_bl ?_
  | with_reducible refine r_ifS ?_
  | with_reducible refine r_if ?_
  | with_reducible refine r_not ?_
  | with_reducible refine r_and ?_
  | with_reducible refine r_or ?_
  | with_reducible refine r_andV ?_
  | with_reducible refine r_andB ?_
  | with_reducible refine r_notV ?_
  | with_reducible refine r_notB ?_
  | with_reducible refine r_call ?_
  | with_reducible refine r_make ?_
  | with_reducible refine r_meth ?_
  | with_reducible refine r_fld ?_
  | with_reducible refine r_tup ?_
  | with_reducible refine r_lst ?_
  | with_reducible refine r_sub ?_
  | with_reducible refine r_sl ?_
  | with_reducible refine r_nop ?_
  | with_reducible refine r_part ?_
  | with_reducible refine r_pti ?_
  | with_reducible refine r_bm ?_
  | with_reducible refine r_m1 ?_
  | with_reducible refine r_m1s ?_
  | with_reducible refine r_dget ?_
  | with_reducible refine r_eq ?_
  | with_reducible refine r_ne ?_
  | with_reducible refine r_eqS ?_
  | with_reducible refine r_neS ?_
  | with_reducible refine r_for ?_
  | with_reducible refine r_lc ?_
  | with_reducible refine r_yes ?_
  | with_reducible refine r_iStr ?_
  | with_reducible refine r_iList ?_
  | with_reducible refine r_iTup ?_
  | with_reducible refine r_iSq ?_
  | with_reducible refine r_iRng ?_
  | with_reducible refine r_iEnumQ ?_
  | with_reducible refine r_iEnumS ?_
  | with_reducible refine r_iEnum ?_
  | with_reducible refine r_iZip ?_
  | with_reducible refine r_tr ?_
  | with_reducible refine r_iSqK ?_
  | with_reducible refine r_fldS ?_
  | with_reducible refine r_dput ?_
  | with_reducible refine r_din ?_
  | with_reducible refine r_gcons ?_
  | with_reducible refine r_gnil ?_
  | with_reducible refine r_gtup upd_same rfl ?_
  | with_reducible refine r_chain ?_
  | with_reducible refine iteT ?_
  | with_reducible refine iteF ?_)
local macro_rules | `(tactic| walk_at "wp") => `(tactic| dsimp only [wipe, List.map_cons, List.map_nil, List.set_cons_succ, List.set_cons_zero])
local macro_rules | `(tactic| walk_at "rd") => `(tactic| repeat (walk_at "r1"))
local macro_rules | `(tactic| walk_at "rd0") => `(tactic| (simp only [L2.start, List.map_cons, List.map_nil, List.length_cons, List.length_nil, Nat.reduceAdd, Nat.reduceSub, List.replicate_succ, List.replicate_zero, List.nil_append, List.cons_append]; repeat (walk_at "r1")))
local macro_rules | `(tactic| walk_at "wp") => `(tactic| dsimp only [wipe, List.map_cons, List.map_nil, List.set_cons_succ, List.set_cons_zero])
/-! ### _law_some_sent -/
def sendT (N : Net) (A : List (List Org)) (t : Tr) : List (List Org) := A.set (N.links.getD t.1 (0, 0)).2 (A.getD (N.links.getD t.1 (0, 0)).2 [] ++ [t.2])
def runT (N : Net) (A : List (List Org)) (SS : List Tr) : List (List Org) := SS.foldl (sendT N) A
def goodT (N : Net) : List (List Org) → List Nat → List Tr → Prop
  | _, _, [] => True
  | A, us, t :: r => trOK N A us t ∧ goodT N (sendT N A t) (us ++ [t.1]) r
theorem goodT_snoc {N : Net} : ∀ {SS : List Tr} {A : List (List Org)} {us : List Nat} {t : Tr}, goodT N A us SS → trOK N (runT N A SS) (us ++ SS.map (·.1)) t → goodT N A us (SS ++ [t])
  | [], A, us, t, _, h => ⟨by simpa [runT] using h, trivial⟩
  | x :: SS, A, us, t, g, h => ⟨g.1, goodT_snoc g.2 (by
      rw [List.append_assoc]
      exact h)⟩
theorem runT_snoc {N : Net} {SS : List Tr} {A : List (List Org)} {t : Tr} : runT N A (SS ++ [t]) = sendT N (runT N A SS) t := by
  unfold runT
  rw [List.foldl_append]; rfl
theorem runT_len {N : Net} : ∀ {SS : List Tr} {A : List (List Org)}, (runT N A SS).length = A.length
  | [], _ => rfl
  | t :: SS, A => by
    show (runT N (sendT N A t) SS).length = _
    rw [runT_len]
    unfold sendT
    rw [List.length_set]
theorem set_bound {α : Type} {A : List (List α)} {r b : Nat} {x : α} (h : ∀ y ∈ A, y.length ≤ b) : ∀ y ∈ A.set r (A.getD r [] ++ [x]), y.length ≤ b + 1 := by
  intro y hy
  rcases List.mem_or_eq_of_mem_set hy with q | q
  · have := h y q; omega
  · rw [q, List.length_append]
    by_cases c : r < A.length
    · have := h (A.getD r []) (by rw [getD_eq c]; exact List.getElem_mem c)
      show _ + 1 ≤ _
      omega
    · rw [List.getD_eq_getElem?_getD, List.getElem?_eq_none (by omega)]
      show 0 + 1 ≤ _
      omega
theorem runT_bound {N : Net} : ∀ {SS : List Tr} {A : List (List Org)} {b : Nat}, (∀ y ∈ A, y.length ≤ b) → ∀ y ∈ runT N A SS, y.length ≤ b + SS.length
  | [], _, _, h => h
  | t :: SS, A, b, h => fun y hy => by
    have := runT_bound (set_bound (r := (N.links.getD t.1 (0, 0)).2) (x := t.2) h) y hy
    rw [List.length_cons]
    omega
theorem beg_bound {N : Net} (ok : NetOK N) : ∀ y ∈ beg N N.rows.length, y.length ≤ 4 := fun y hy => by
  obtain ⟨i, hi, rfl⟩ := List.mem_map.mp hy
  rw [List.length_map, List.length_range]
  exact (ok.row (List.mem_range.mp hi)).1
theorem beg_len (N : Net) : (beg N N.rows.length).length = N.rows.length := by unfold beg; rw [List.length_map, List.length_range]
structure SentX (H : Hp) (st ha : Addr) (N : Net) (SS : List Tr) (ts : List (Addr × Tr)) : Prop where
  top : H st = some (.lst (ts.map fun t => .ref t.1))
  eq : ts.map (·.2) = SS
  cell : ∀ t ∈ ts, H t.1 = some (.tup (trV t.2))
  has : HasZ st H ha N (runT N (beg N N.rows.length) SS)
  good : goodT N (beg N N.rows.length) [] SS
def spSomeS : Sp := fun vs H Q _ => ∃ (p q d : Addr) (cs : List Int) (N : Net) (most : Nat), vs = [.ref p, .ref d, iN most] ∧ Pool p q cs H ∧ NetAt H d N ∧ NetOK N ∧ most ≤ 10 ∧
  ∀ T st ha SS ts H', Kept H H' → Pool p q cs H' → H' T = some (.tup [.ref st, .ref ha]) → SentX H' st ha N SS ts → SS.length ≤ 10 → Q (.ref T) H'
section
variable {P : Program} {w : World} {K : PySem.W.Frag} {mg : Str → Option Value} {base : Heap}
theorem c_somes (W : TW K mg) : Cal P w K mg base 5 "_law_some_sent" P__law_some_sent spSomeS := by
  have c__law_take := c_take (P := P) (w := w) (base := base) W
  have c__law_pick := c_pick (P := P) (w := w) (base := base) W
  have c__law_begin := c_begin (P := P) (w := w) (base := base) W
  have c__law_possible := c_poss (P := P) (w := w) (base := base) W
  have c__law_sent := c_sent (P := P) (w := w) (base := base) W
  obtain ⟨fd, F⟩ := W.f__law_some_sent
  refine ⟨_, fd, W.g__law_some_sent, F.kp, F.bindsN (fun _ _ _ _ _ _ us hl => match us, hl with | [_, _, _], _ => rfl), okN F sc__law_some_sent (fun vs H Q E h => ?_) (fun cdv A outer s H vs Q E hr h => ?_)⟩
  · obtain ⟨p, q, d, cs, N, most, rfl, _⟩ := h
    rfl
  · have hu := hu_of hr
    obtain ⟨p, q, d, cs, N, most, rfl, hp, hN, ok, hmost, k⟩ := h
    have hr4 := ok.r4
    have es : sizeLine = 16777216 := sizeLine_eq
    refine ⟨_, (pss_cons (ps_set (i := 3) sc__law_some_sent.nd rfl (Or.inl rfl) (pe_cal c__law_begin (hr.mono (by decide)) (pa_cons (pv 1) pa_nil)))
  (pss_cons (ps_set (i := 4) sc__law_some_sent.nd rfl (Or.inl rfl) (pe_lst pa_nil))
  (pss_cons (ps_for PassesOwn.never rfl (pi_range1 rfl W.z_range (pa_cons (pe_cal c__law_take (hr.mono (by decide)) (pa_cons (pv 0) (pa_cons (pe_op op_add (pv 2) pe_int) pa_nil))) pa_nil)) (pg_name (i := 5) sc__law_some_sent.nd rfl (Or.inl rfl))
   (pss_cons (ps_set (i := 6) sc__law_some_sent.nd rfl (Or.inl rfl) (pe_cal c__law_possible (hr.mono (by decide)) (pa_cons (pv 1) (pa_cons (pv 3) (pa_cons (pe_lc (own := [("_law_step", 7)]) rfl sc__law_some_sent.nd (pi_listK K (pv 4)) (blkOk_by (own := [("_law_step", 7)]) (by first | decide +kernel | kernel_rfl)) (fun _ _ _ _ _ => (pg_name (i := 7) sc__law_some_sent.nd rfl (Or.inl rfl))) (fun _ _ _ _ _ => pts_nil) (fun _ _ _ _ _ => (pe_ix (ixQ K) (pv 7) pe_int (fun _ _ => rfl)))) pa_nil)))))
  (pss_cons (ps_if (pt_not (pt_truthK K (pv 6)))
   (pss_one ps_break)
   pss_nil)
  (pss_cons (ps_set (i := 7) sc__law_some_sent.nd rfl (Or.inl rfl) (pe_cal c__law_pick (hr.mono (by decide)) (pa_cons (pv 0) (pa_cons (pv 6) pa_nil))))
  (pss_cons (ps_expr (pe_bmK K PySem.F.plainAttrs_list PySem.F.slot_list_append PySem.F.type_list_append mt_append (pv 4) (pa_cons (pv 7) pa_nil)))
  (pss_one (ps_set (i := 3) sc__law_some_sent.nd rfl (Or.inl rfl) (pe_cal c__law_sent (hr.mono (by decide)) (pa_cons (pv 1) (pa_cons (pv 3) (pa_cons (pv 7) pa_nil)))))))))))
  (pss_one (ps_ret (pe_tup (pa_cons (pv 4) (pa_cons (pv 3) pa_nil)))))))), ?_⟩
    walk_at "rd0"
    refine ⟨d, N, rfl, hN, ok, fun ha H1 s1 _ hX1 => ?_⟩
    walk_at "rd"
    refine ⟨Nat.zero_le _, fun st hst => ?_⟩
    have s2 : Same H1 (upd H1 st (.lst [])) := same_new hst
    have est : upd H1 st (.lst []) st = some (.lst []) := upd_same
    generalize upd H1 st (.lst []) = H2 at s2 est ⊢
    have hst0 := s1.free hst
    have p2 := hp.same (s1.trans s2)
    walk_at "rd"
    refine ⟨p, q, cs, _, rfl, p2, by omega, by omega, fun n H3 n0 n1 s3 p3 => ?_⟩
    have s03 : Kept H H3 := (Same.kept (s1.trans s2)).trans s3
    walk_at "rd"
    refine ⟨n, rfl, by omega, by omega, for_w (walk_range (lo := 0) (n := n.toNat)) (fun i σ H' => Kept H H' ∧ Pool p q cs H' ∧ (∃ ha SS ts, SentX H' st ha N SS ts ∧ SS.length ≤ i ∧ ∃ v5 v6 v7, σ = [some (.ref p), some (.ref d), some (iN most), some (.ref ha), some (.ref st), v5, v6, v7]))
      (by exact ⟨s03, p3, ha, [], [], ⟨s3.get est, rfl, (fun _ h => nomatch h), ((hX1.z hst).same s2).kept s3, trivial⟩, Nat.le_refl _, none, none, none, rfl⟩) (fun _ _ _ _ _ => trivial) ?_ ?_⟩
    · rintro i y σ H0 H4 hi ⟨s4, p4, ha, SS, ts, hS, hl, v5, v6, v7, rfl⟩ ⟨rfl, rfl⟩
      have hN4 := hN.kept s4
      have hA := runT_bound (N := N) (SS := SS) (beg_bound ok)
      have htl : ts.length = SS.length := by rw [← hS.eq, List.length_map]
      walk_at "rd"
      refine ⟨st, rfl, ⟨_, SqL.of hS.top⟩, fun D hD => lc_all walk_list ySame_at (by rw [List.length_map]; omega) hD (fun j => iN (SS.getD j (0, 0, 0)).1) (fun H5 s5 => SqL.of (s5 _ _ hS.top)) ?_ fun H5 s5 e5 => ?_⟩
      · rintro j z Hc H' R E hj s ⟨rfl, hz⟩ hR
        rw [List.length_map] at hj
        rw [List.getElem?_map, List.getElem?_eq_getElem hj] at hz
        cases hz
        have hc := hS.cell _ (List.getElem_mem hj)
        have e : SS.getD j (0, 0, 0) = ts[j].2 := by
          rw [← hS.eq, List.getD_eq_getElem?_getD, List.getElem?_map, List.getElem?_eq_getElem hj]; rfl
        rw [e] at hR
        walk_at "wp"
        walk_at "rd"
        refine ⟨rfl, ?_⟩
        walk_at "rd"
        refine r_ixQ (b := true) (xs := trV ts[j].2) (v := iN ts[j].2.1) (s _ _ hc) 0 rfl rfl ?_
        exact hR _ (Same.refl _)
      · have e5' : H5 D = some (.lst ((SS.map (·.1)).map iN)) := by
          rw [e5, List.length_map, htl, List.map_map]
          congr 2
          refine List.ext_getElem (by simp) fun j q1 q2 => ?_
          simp at q1 q2
          simp [q1, List.getD_eq_getElem?_getD]
        have s45 : Kept H H5 := s4.same s5
        walk_at "rd"
        refine ⟨d, ha, D, N, runT N (beg N N.rows.length) SS, SS.map (·.1), rfl, hN4.same s5, ok, (hS.has.same s5).a, by rw [runT_len, beg_len], fun r hr => by have := hA r hr; omega, e5', fun g us H6 s6 hg eg hgl hus => ?_⟩
        have s46 := s45.same s6
        have p6 : Pool p q cs H6 := (p4.same s5).same s6
        have s06 : Same H4 H6 := s5.trans s6
        walk_at "rd"
        refine ⟨_, .inl ⟨_, SqL.of eg, rfl⟩, ?_⟩
        cases ce : (us.map fun t => V.ref t.1).isEmpty with
        | true =>
          walk_at "rd"
          refine iteT ?_
          walk_at "rd"
          refine ⟨(by show 2 ≤ sizeLine; decide), fun T hT => ?_⟩
          have sT := same_new (o := .tup [.ref st, .ref ha]) hT
          have sX := s06.trans sT
          exact k T st ha SS ts _ (s46.same sT) (p6.same sT) upd_same ⟨sX _ _ hS.top, hS.eq, fun t ht => sX _ _ (hS.cell t ht), hS.has.same sX, hS.good⟩ (by omega)
        | false =>
          have hpos : 0 < us.length := by
            rw [List.isEmpty_eq_false_iff_exists_mem] at ce
            obtain ⟨x, hx⟩ := ce
            have := List.length_pos_of_mem hx
            rwa [List.length_map] at this
          walk_at "rd"
          refine iteF ?_
          walk_at "rd"
          refine ⟨p, q, g, cs, _, rfl, p6, eg, isPool_refs _ _, by rw [List.length_map]; exact hpos, by rw [List.length_map]; omega, fun j x H7 hx s7 p7 => ?_⟩
          rw [List.getElem?_map] at hx
          cases hu7 : us[j]? with
          | none => rw [hu7] at hx; cases hx
          | some t =>
            rw [hu7] at hx
            cases hx
            obtain ⟨t1, t2⟩ := hus t (List.mem_of_getElem? hu7)
            have est7 := s7.get (s06 _ _ hS.top) (isPool_refs _ _)
            have et7 := s7.get t1
            walk_at "rd"
            refine ⟨.inl ⟨rfl, _, SqL.of est7⟩, ?_⟩
            walk_at "rd"
            refine ⟨st, _, _, rfl, rfl, est7, by rw [List.length_map]; omega, ?_⟩
            have k7 : ∀ {b o}, b ≠ st → H7 b = some o → upd H7 st (.lst ((ts.map fun t => V.ref t.1) ++ [.ref t.1])) b = some o := fun {b o} z e => by rw [upd_ne z]; exact e
            have s8 : Kept H (upd H7 st (.lst ((ts.map fun t => V.ref t.1) ++ [.ref t.1]))) := (s46.trans s7).mut hst0
            have p8 : Pool p q cs (upd H7 st (.lst ((ts.map fun t => V.ref t.1) ++ [.ref t.1]))) := Pool.mut' hp p7 hst0
            have e8 : upd H7 st (.lst ((ts.map fun t => V.ref t.1) ++ [.ref t.1])) st = some (.lst ((ts ++ [t]).map fun t => V.ref t.1)) := by rw [upd_same, List.map_append]; rfl
            have kt : ∀ {b xs}, H7 b = some (.tup xs) → upd H7 st (.lst ((ts.map fun t => V.ref t.1) ++ [.ref t.1])) b = some (.tup xs) := fun e => k7 (ne_of e est7 tup_lst) e
            have hz8 : HasZ st (upd H7 st (.lst ((ts.map fun t => V.ref t.1) ++ [.ref t.1]))) ha N (runT N (beg N N.rows.length) SS) := ((hS.has.same s06).kept s7).upd est7
            have c8 : ∀ x ∈ ts, (upd H7 st (.lst ((ts.map fun t => V.ref t.1) ++ [.ref t.1]))) x.1 = some (.tup (trV x.2)) := fun x hx => kt (s7.get (s06 _ _ (hS.cell x hx)))
            have ct := kt et7
            generalize upd H7 st (.lst ((ts.map fun t => V.ref t.1) ++ [.ref t.1])) = H8 at s8 p8 e8 hz8 c8 ct ⊢
            walk_at "rd"
            refine ⟨d, ha, t.1, st, N, _, t.2.1, t.2.2, rfl, ⟨_, e8⟩, hN.kept s8, ok, hz8, by rw [runT_len, beg_len], ct, t2.1, t2.2.2.1, fun r hr => by have := hA r hr; omega, fun hb H9 s9 hZ9 => ?_⟩
            walk_at "rd"
            refine ⟨s8.same s9, p8.same s9, hb, SS ++ [t.2], ts ++ [t], ⟨s9 _ _ e8, by rw [List.map_append, hS.eq]; rfl, fun x hx => ?_, ?_, goodT_snoc hS.good t2⟩, by rw [List.length_append]; show _ + 1 ≤ _; omega, _, _, _, rfl⟩
            · rcases List.mem_append.mp hx with q | q
              · exact s9 _ _ (c8 x q)
              · cases List.mem_singleton.mp q
                exact s9 _ _ ct
            · rw [runT_snoc]
              exact hZ9
    · rintro σ H4 ⟨s4, p4, ha, SS, ts, hS, hl, v5, v6, v7, rfl⟩
      walk_at "rd"
      refine ⟨(by show 2 ≤ sizeLine; decide), fun T hT => ?_⟩
      have sT := same_new (o := .tup [.ref st, .ref ha]) hT
      exact k T st ha SS ts _ (s4.same sT) (p4.same sT) upd_same ⟨sT _ _ hS.top, hS.eq, fun t ht => sT _ _ (hS.cell t ht), hS.has.same sT, hS.good⟩ (by omega)
end
end Kn
set_option Elab.async false
set_option linter.all false
set_option maxRecDepth 100000
set_option maxHeartbeats 4000000
namespace Kn
open PySem PySem.Spec PyProof.Rows L2
local macro_rules | `(tactic| walk_at "hp") => `(tactic| first | assumption | exact upd_same | (rw [upd_ne (by assumption)]; walk_at "hp"))
local macro_rules | `(tactic| walk_at "r1") => `(tactic| first
  | with_reducible refine r_seq ?_
  | with_reducible refine r_asg ?_
  | (with_reducible refine r_name ?_; try dsimp only [List.set_cons_succ, List.set_cons_zero])
  | ((with_reducible refine' r_var (v := ?v1) ?h1 ?q1); (case h1 => exact rfl))
  | with_reducible refine r_c ?_
  | with_reducible refine r_op ?_
  | with_reducible refine r_un ?_
  | with_reducible refine r_I0 ?_
  | with_reducible refine r_U ?_
  | with_reducible refine r_ret ?_
  | with_reducible refine r_retN ?_
  | with_reducible refine r_drop ?_
  | with_reducible refine r_next ?_
  | with_reducible refine r_brk ?_
  | with_reducible refine r_cons ?_
  | with_reducible refine r_nil ?_
  | with_reducible refine r_cb ?_
  | with_reducible refine r_ckw ?_
  | with_reducible refine r_test ?_
  | with_reducible refine r_B ?_
  | with_reducible refine r_blN ?_
  | with_reducible refine r_bl ?_
  | with_reducible refine r_ifS ?_
  | with_reducible refine r_if ?_
  | with_reducible refine r_not ?_
  | with_reducible refine r_and ?_
  | with_reducible refine r_or ?_
  | with_reducible refine r_andV ?_
  | with_reducible refine r_andB ?_
  | with_reducible refine r_notV ?_
  | with_reducible refine r_notB ?_
  | with_reducible refine r_call ?_
  | with_reducible refine r_make ?_
  | with_reducible refine r_meth ?_
  | with_reducible refine r_fld ?_
  | with_reducible refine r_tup ?_
  | with_reducible refine r_lst ?_
  | with_reducible refine r_sub ?_
  | with_reducible refine r_sl ?_
  | with_reducible refine r_nop ?_
  | with_reducible refine r_part ?_
  | with_reducible refine r_pti ?_
  | with_reducible refine r_bm ?_
  | with_reducible refine r_m1 ?_
  | with_reducible refine r_m1s ?_
  | with_reducible refine r_dget ?_
  | with_reducible refine r_eq ?_
  | with_reducible refine r_ne ?_
  | with_reducible refine r_eqS ?_
  | with_reducible refine r_neS ?_
  | with_reducible refine r_for ?_
  | with_reducible refine r_lc ?_
  | with_reducible refine r_yes ?_
  | with_reducible refine r_iStr ?_
  | with_reducible refine r_iList ?_
  | with_reducible refine r_iTup ?_
  | with_reducible refine r_iSq ?_
  | with_reducible refine r_iRng ?_
  | with_reducible refine r_iEnumQ ?_
  | with_reducible refine r_iEnumS ?_
  | with_reducible refine r_iEnum ?_
  | with_reducible refine r_iZip ?_
  | with_reducible refine r_tr ?_
  | with_reducible refine r_iSqK ?_
  | with_reducible refine r_fldS ?_
  | with_reducible refine r_dput ?_
  | with_reducible refine r_din ?_
  | with_reducible refine r_gcons ?_
  | with_reducible refine r_gnil ?_
  | with_reducible refine r_gtup upd_same rfl ?_
  | with_reducible refine r_chain ?_
  | with_reducible refine iteT ?_
  | with_reducible refine iteF ?_)
local macro_rules | `(tactic| walk_at "wp") => `(tactic| dsimp only [wipe, List.map_cons, List.map_nil, List.set_cons_succ, List.set_cons_zero])
local macro_rules | `(tactic| walk_at "rd") => `(tactic| repeat (walk_at "r1"))
local macro_rules | `(tactic| walk_at "rd0") => `(tactic| (simp only [L2.start, List.map_cons, List.map_nil, List.length_cons, List.length_nil, Nat.reduceAdd, Nat.reduceSub, List.replicate_succ, List.replicate_zero, List.nil_append, List.cons_append]; repeat (walk_at "r1")))
local macro_rules | `(tactic| walk_at "wp") => `(tactic| dsimp only [wipe, List.map_cons, List.map_nil, List.set_cons_succ, List.set_cons_zero])
/-! ### _law_run -/
/-- a list of lists of parities; none of it at an address of Z -/
structure HasM (Z : List Addr) (H : Hp) (a : Addr) (h : List (List Nat)) (ls : List (Addr × List Nat)) : Prop where
  top : H a = some (.lst (ls.map fun l => .ref l.1))
  eq : ls.map (·.2) = h
  row : ∀ l ∈ ls, H l.1 = some (.lst (l.2.map tv))
  nz : a ∉ Z
  nl : ∀ l ∈ ls, l.1 ∉ Z
theorem HasM.kept {Z : List Addr} {H H' : Hp} {a : Addr} {h : List (List Nat)} {ls : List (Addr × List Nat)} (x : HasM Z H a h ls) (k : Kept H H') : HasM Z H' a h ls :=
  ⟨k.get x.top (isPool_refs _ _), x.eq, fun l hl => k.get (x.row l hl) (isPool_strs _ _), x.nz, x.nl⟩
theorem HasM.same {Z : List Addr} {H H' : Hp} {a : Addr} {h : List (List Nat)} {ls : List (Addr × List Nat)} (x : HasM Z H a h ls) (k : Same H H') : HasM Z H' a h ls := x.kept (Same.kept k)
theorem HasM.upd {Z : List Addr} {H : Hp} {a z : Addr} {o : HO} {h : List (List Nat)} {ls : List (Addr × List Nat)} (x : HasM Z H a h ls) (hz : z ∈ Z) : HasM Z (upd H z o) a h ls :=
  ⟨by rw [upd_ne (fun e => x.nz (by rw [e]; exact hz))]; exact x.top, x.eq, fun l hl => by rw [upd_ne (fun e => x.nl l hl (by rw [e]; exact hz))]; exact x.row l hl, x.nz, x.nl⟩
theorem HasM.more {Z : List Addr} {z : Addr} {H : Hp} {a : Addr} {h : List (List Nat)} {ls : List (Addr × List Nat)} (x : HasM Z H a h ls) (hz : H z = none) : HasM (z :: Z) H a h ls :=
  ⟨x.top, x.eq, x.row, fun m => by
    rcases List.mem_cons.mp m with e | e
    · exact ne_of_none x.top hz e
    · exact x.nz e, fun l hl m => by
    rcases List.mem_cons.mp m with e | e
    · exact ne_of_none (x.row l hl) hz e
    · exact x.nl l hl e⟩
theorem HasM.len {Z : List Addr} {H : Hp} {a : Addr} {h : List (List Nat)} {ls : List (Addr × List Nat)} (x : HasM Z H a h ls) : ls.length = h.length := by rw [← x.eq, List.length_map]
theorem HasM.at_ {Z : List Addr} {H : Hp} {a : Addr} {h : List (List Nat)} {ls : List (Addr × List Nat)} (x : HasM Z H a h ls) {i : Nat} (hi : i < h.length) : ∃ l, ls[i]? = some l ∧ l ∈ ls ∧ l.2 = h.getD i [] := by
  have hl : i < ls.length := by rw [x.len]; exact hi
  refine ⟨ls[i], List.getElem?_eq_getElem hl, List.getElem_mem hl, ?_⟩
  rw [← x.eq, List.getD_eq_getElem?_getD, List.getElem?_map, List.getElem?_eq_getElem hl]; rfl
structure Rw where
  a : Addr
  h : List (List Nat)
  ls : List (Addr × List Nat)
structure RunX (Z : List Addr) (H : Hp) (st rw : Addr) (N : Net) (S : List Step) (ts : List (Addr × Step)) (hh : List Rw) : Prop where
  top : H st = some (.lst (ts.map fun t => .ref t.1))
  eq : ts.map (·.2) = S
  cell : ∀ t ∈ ts, H t.1 = some (.tup (stepV t.2.1 t.2.2))
  rtop : H rw = some (.lst (hh.map fun x => .ref x.a))
  req : hh.map (·.h) = (List.range (S.length + 1)).map fun k => runS N N.rows (S.take k)
  row : ∀ x ∈ hh, HasM Z H x.a x.h x.ls
  good : good N N.rows [] S = true
  ok : stOK N S
theorem good_snoc {N : Net} : ∀ {S : List Step} {h : List (List Nat)} {us : List Nat} {s : Step}, good N h us S = true → okAt N (runS N h S) (us ++ S.map (·.1)) s = true → good N h us (S ++ [s]) = true
  | [], h, us, s, _, e => by
    rw [List.map_nil, List.append_nil] at e
    show (okAt N h us s && true) = true
    rw [Bool.and_true]
    exact e
  | x :: S, h, us, s, g, e => by
    have g' : (okAt N h us x && good N (send N h x) (us ++ [x.1]) S) = true := g
    rw [Bool.and_eq_true] at g'
    show (okAt N h us x && good N (send N h x) (us ++ [x.1]) (S ++ [s])) = true
    rw [g'.1, Bool.true_and]
    refine good_snoc g'.2 ?_
    rw [List.append_assoc]
    exact e
theorem runS_snoc {N : Net} {S : List Step} {h : List (List Nat)} {s : Step} : runS N h (S ++ [s]) = send N (runS N h S) s := by
  unfold runS
  rw [List.foldl_append]; rfl
theorem runS_len {N : Net} : ∀ {S : List Step} {h : List (List Nat)}, (runS N h S).length = h.length
  | [], _ => rfl
  | s :: S, h => by
    show (runS N (send N h s) S).length = _
    rw [runS_len]
    unfold send
    rw [List.length_set]
theorem mem_set_snoc {α : Type} {h : List (List α)} {r : Nat} {x : α} {y : List α} (hy : y ∈ h.set r (h.getD r [] ++ [x])) {m : α} (hm : m ∈ y) : m = x ∨ ∃ z ∈ h, m ∈ z := by
  rcases List.mem_or_eq_of_mem_set hy with q | q
  · exact .inr ⟨y, q, hm⟩
  · rw [q] at hm
    rcases List.mem_append.mp hm with e | e
    · by_cases c : r < h.length
      · rw [getD_eq c] at e
        exact .inr ⟨_, List.getElem_mem c, e⟩
      · rw [List.getD_eq_getElem?_getD, List.getElem?_eq_none (by omega)] at e
        cases e
    · exact .inl (List.mem_singleton.mp e)
theorem runS_lt {N : Net} : ∀ {S : List Step} {h : List (List Nat)}, stOK N S → (∀ r ∈ h, ∀ m ∈ r, m < 2 ^ N.v) → ∀ r ∈ runS N h S, ∀ m ∈ r, m < 2 ^ N.v
  | [], _, _, hb => hb
  | s :: S, h, ok, hb => runS_lt (S := S) (fun x hx => ok x (List.mem_cons_of_mem _ hx)) fun y hy m hm => by
    rcases mem_set_snoc hy hm with e | ⟨z, hz, e⟩
    · rw [e]; exact (ok s List.mem_cons_self).2
    · exact hb z hz m e
theorem rows_lt2 {N : Net} (ok : NetOK N) : ∀ r ∈ N.rows, ∀ m ∈ r, m < 2 ^ N.v := fun r hr m hm => (ok.rm r hr m hm).2
theorem runS_bound {N : Net} : ∀ {S : List Step} {h : List (List Nat)} {b : Nat}, (∀ y ∈ h, y.length ≤ b) → ∀ y ∈ runS N h S, y.length ≤ b + S.length
  | [], _, _, hb => hb
  | s :: S, h, b, hb => fun y hy => by
    have h2 : ∀ y ∈ send N h s, y.length ≤ b + 1 := fun y hy => by
      unfold send at hy
      rcases List.mem_or_eq_of_mem_set hy with q | q
      · have := hb y q; omega
      · rw [q, List.length_append]
        by_cases c : rcv N s < h.length
        · have := hb (h.getD (rcv N s) []) (by rw [getD_eq c]; exact List.getElem_mem c)
          show _ + 1 ≤ _
          omega
        · rw [List.getD_eq_getElem?_getD, List.getElem?_eq_none (by omega)]
          show 0 + 1 ≤ _
          omega
    have := runS_bound h2 y hy
    rw [List.length_cons]
    omega
def spRun : Sp := fun vs H Q _ => ∃ (p q d : Addr) (cs : List Int) (N : Net) (most : Nat), vs = [.ref p, .ref d, iN most] ∧ Pool p q cs H ∧ NetAt H d N ∧ NetOK N ∧ most ≤ 10 ∧
  ∀ T st rw Z S ts hh H', Kept H H' → Pool p q cs H' → H T = none → H' T = some (.dK [(.inr (Str.ofString "steps"), .ref st), (.inr (Str.ofString "rows"), .ref rw)]) → RunX Z H' st rw N S ts hh → S.length ≤ 10 → Q (.ref T) H'
theorem erase_map {α β : Type} {f : α → β} : ∀ (l : List α) (j : Nat), (l.map f).eraseIdx j = (l.eraseIdx j).map f
  | [], _ => rfl
  | a :: l, 0 => rfl
  | a :: l, j + 1 => by
    show f a :: (l.map f).eraseIdx j = f a :: (l.eraseIdx j).map f
    rw [erase_map]
theorem nodup_erase {l : List Nat} (h : l.Nodup) {j : Nat} (hj : j < l.length) : l[j] ∉ l.eraseIdx j := by
  intro m
  rw [List.mem_eraseIdx_iff_getElem] at m
  obtain ⟨i, hi, hne, e⟩ := m
  rw [List.nodup_iff_pairwise_ne, List.pairwise_iff_getElem] at h
  rcases Nat.lt_or_gt_of_ne hne with c | c
  · exact h i j hi hj c e
  · exact h j i hj hi c e.symm
theorem seqIx {i n : Nat} (h : i < n) : seqIndex? ((i : Nat) : Int) n = some i := by
  unfold seqIndex?
  have e : (if ((i : Nat) : Int) < 0 then ((i : Nat) : Int) + (n : Int) else ((i : Nat) : Int)) = ((i : Nat) : Int) := if_neg (by omega)
  simp only [e]
  rw [if_pos (by simp; omega)]
  simp
theorem sr_ne : ¬ ((.inr (Str.ofString "steps") : Key) = .inr (Str.ofString "rows")) := by decide +kernel
theorem sr_new (st rw : Addr) : mergeK [] [((.inr (Str.ofString "steps") : Key), V.ref st), (.inr (Str.ofString "rows"), .ref rw)] = [(.inr (Str.ofString "steps"), .ref st), (.inr (Str.ofString "rows"), .ref rw)] := by
  unfold mergeK
  simp only [List.foldl_cons, List.foldl_nil, putK, List.any_nil, List.any_cons, Bool.false_eq_true, if_false, List.nil_append, List.cons_append, decide_eq_true_eq, Bool.or_false, sr_ne, decide_false, Bool.or_self]
section
variable {P : Program} {w : World} {K : PySem.W.Frag} {mg : Str → Option Value} {base : Heap}
theorem c_run (W : TW K mg) : Cal P w K mg base 5 "_law_run" P__law_run spRun := by
  have c__law_take := c_take (P := P) (w := w) (base := base) W
  have c__law_pick := c_pick (P := P) (w := w) (base := base) W
  have c__law_derived := c_der (P := P) (w := w) (base := base) W
  obtain ⟨fd, F⟩ := W.f__law_run
  refine ⟨_, fd, W.g__law_run, F.kp, F.bindsN (fun _ _ _ _ _ _ us hl => match us, hl with | [_, _, _], _ => rfl), okN F sc__law_run (fun vs H Q E h => ?_) (fun cdv A outer s H vs Q E hr h => ?_)⟩
  · obtain ⟨p, q, d, cs, N, most, rfl, _⟩ := h
    rfl
  · have hu := hu_of hr
    obtain ⟨p, q, d, cs, N, most, rfl, hp, ⟨ra, la, rs, hN⟩, ok, hmost, k⟩ := h
    have hr4 := ok.r4
    have h10 := ok.l10
    have hrl := hN.len
    have es : sizeLine = 16777216 := sizeLine_eq
    refine ⟨_, (pss_cons (ps_setLc (i := 3) (own := [("_law_messages", 12)]) (by rfl) sc__law_run.nd rfl rfl (sw_true rfl rfl rfl (by decide +kernel)) (pi_listK K (pe_dget hu (pv 1) pe_str (fun _ _ => rfl))) (blkOk_by (own := [("_law_messages", 12)]) (by first | decide +kernel | kernel_rfl)) (fun _ _ _ _ _ => (pg_name (i := 12) sc__law_run.nd rfl (Or.inl rfl))) (fun _ _ _ _ _ => pts_nil) (fun _ _ _ _ _ => (pe_callTy (listK K) rfl W.z_list (by decide +kernel) (pa_cons (pv 12) pa_nil))))
  (pss_cons (ps_set (i := 4) sc__law_run.nd rfl (Or.inl rfl) (pe_lst (pa_cons (pv 3) pa_nil)))
  (pss_cons (ps_set (i := 5) sc__law_run.nd rfl (Or.inl rfl) (pe_lst pa_nil))
  (pss_cons (ps_set (i := 6) sc__law_run.nd rfl (Or.inl rfl) (pe_listRg rfl rfl W.z_list (prg_1 rfl W.z_range (pe_callB (lenK K) rfl W.z_len PySem.boot_len (pa_cons (pe_dget hu (pv 1) pe_str (fun _ _ => rfl)) pa_nil)))))
  (pss_cons (ps_for PassesOwn.never rfl (pi_range1 rfl W.z_range (pa_cons (pe_callB (call_min2 rfl) rfl W.z_min (by decide +kernel) (pa_cons (pv 2) (pa_cons (pe_callB (lenK K) rfl W.z_len PySem.boot_len (pa_cons (pv 6) pa_nil)) pa_nil))) pa_nil)) (pg_name (i := 7) sc__law_run.nd rfl (Or.inl rfl))
   (pss_cons (ps_set (i := 8) sc__law_run.nd rfl (Or.inl rfl) (pe_bmK K PySem.F.plainAttrs_list PySem.F.slot_list_pop PySem.F.type_list_pop mt_popAt (pv 6) (pa_cons (pe_cal c__law_take (hr.mono (by decide)) (pa_cons (pv 0) (pa_cons (pe_callB (lenK K) rfl W.z_len PySem.boot_len (pa_cons (pv 6) pa_nil)) pa_nil))) pa_nil)))
  (pss_cons (ps_set (i := 9) sc__law_run.nd rfl (Or.inl rfl) (pe_m1 PySem.F.slot_str_index PySem.F.type_str_index mt_sindex pe_str (pe_ix ix_str (pe_ix (ixL K) (pe_dget hu (pv 1) pe_str (fun _ _ => rfl)) (pv 8) (fun _ _ => rfl)) pe_int (fun _ _ => rfl))))
  (pss_cons (ps_set (i := 10) sc__law_run.nd rfl (Or.inl rfl) (pe_m1 PySem.F.slot_str_index PySem.F.type_str_index mt_sindex pe_str (pe_ix ix_str (pe_ix (ixL K) (pe_dget hu (pv 1) pe_str (fun _ _ => rfl)) (pv 8) (fun _ _ => rfl)) pe_int (fun _ _ => rfl))))
  (pss_cons (ps_set (i := 11) sc__law_run.nd rfl (Or.inl rfl) (pe_cal c__law_pick (hr.mono (by decide)) (pa_cons (pv 0) (pa_cons (pe_cal c__law_derived (hr.mono (by decide)) (pa_cons (pe_ix (ixL K) (pv 3) (pv 9) (fun _ _ => rfl)) pa_nil)) pa_nil))))
  (pss_cons (ps_expr (pe_bmK K PySem.F.plainAttrs_list PySem.F.slot_list_append PySem.F.type_list_append mt_append (pv 5) (pa_cons (pe_tup (pa_cons (pv 8) (pa_cons (pv 11) pa_nil))) pa_nil)))
  (pss_cons (ps_set (i := 3) sc__law_run.nd rfl (Or.inl rfl) (pe_op op_cat (pe_op op_cat (pe_slice (slL K) (pv 3) po_none (po_some (pv 10))) (pe_lst (pa_cons (pe_op op_cat (pe_ix (ixL K) (pv 3) (pv 10) (fun _ _ => rfl)) (pe_lst (pa_cons (pv 11) pa_nil))) pa_nil))) (pe_slice (slL K) (pv 3) (po_some (pe_op op_add (pv 10) pe_int)) po_none)))
  (pss_one (ps_expr (pe_bmK K PySem.F.plainAttrs_list PySem.F.slot_list_append PySem.F.type_list_append mt_append (pv 4) (pa_cons (pv 3) pa_nil)))))))))))
  (pss_one (ps_ret (pe_disp (pps_cons pe_str (pv 5) (pps_cons pe_str (pv 4) pps_nil)) (by rfl) (by rfl) (fun z => by cases z) (by decide))))))))), ?_⟩
    walk_at "rd0"
    refine ⟨d, _, rfl, hN.gn, ?_⟩
    refine ⟨ra, rfl, ⟨_, SqL.of hN.nodes⟩, fun D hD => lc_new walk_list ySame_at (by rw [List.length_map]; omega) hD (fun _ => true) (fun i => .lst ((N.rows.getD i []).map tv)) (fun H1 s1 => SqL.of (s1 _ _ hN.nodes)) ?_ fun H1 ts0 s1 e1 em kk nd => ?_⟩
    · rintro i z Hc H' R E hi s ⟨rfl, hz⟩ hR hE
      rw [List.length_map, hrl] at hi
      obtain ⟨a, h1, h2⟩ := hN.row hi
      rw [h1] at hz
      cases hz
      walk_at "wp"
      walk_at "rd"
      refine ⟨rfl, ?_⟩
      walk_at "rd"
      refine ⟨a, _, rfl, .inl (SqL.of (s _ _ h2)), fun l hl => ?_⟩
      exact hR rfl l _ (same_new hl) hl upd_same
    have emL : ts0.map (·.2) = (List.range N.rows.length).map fun i => HO.lst ((N.rows.getD i []).map tv) := by
      rw [em, List.length_map, hrl]
      congr 1
      exact List.filter_eq_self.mpr fun _ _ => rfl
    have hl0 : ts0.length = N.rows.length := by
      have := congrArg List.length emL
      rwa [List.length_map, List.length_map, List.length_range] at this
    have hM1 : HasM [] H1 D N.rows ((List.range N.rows.length).map fun i => ((ts0.getD i (0, .lst [])).1, N.rows.getD i [])) := by
      refine ⟨?_, ?_, fun l hl => ?_, List.not_mem_nil, fun l _ => List.not_mem_nil⟩
      · rw [e1, List.map_map]
        congr 2
        refine List.ext_getElem (by simp [hl0]) fun j q1 q2 => ?_
        simp at q1 q2
        simp [q1, List.getD_eq_getElem?_getD]
      · rw [List.map_map]
        refine List.ext_getElem (by simp) fun j q1 q2 => ?_
        simp at q1 q2
        simp [q2, List.getD_eq_getElem?_getD]
      · obtain ⟨i, hi, rfl⟩ := List.mem_map.mp hl
        have hi := List.mem_range.mp hi
        have hi2 : i < ts0.length := by omega
        show H1 (ts0.getD i _).1 = _
        rw [getD_eq hi2, (kk _ (List.getElem_mem hi2)).2.1]
        have z1 : (ts0.map (·.2))[i]? = some ts0[i].2 := by rw [List.getElem?_map, List.getElem?_eq_getElem hi2]; rfl
        rw [emL, List.getElem?_map, List.getElem?_range hi] at z1
        exact z1.symm
    generalize (List.range N.rows.length).map (fun i => ((ts0.getD i (0, HO.lst [])).1, N.rows.getD i [])) = ls0 at hM1
    walk_at "rd"
    refine ⟨(by show 1 ≤ sizeLine; decide), fun rw hrw => ?_⟩
    have s2 : Same H1 (upd H1 rw (.lst [.ref D])) := same_new hrw
    have erw : upd H1 rw (.lst [.ref D]) rw = some (.lst [.ref D]) := upd_same
    have hM2 := (hM1.more hrw).same s2
    generalize upd H1 rw (.lst [.ref D]) = H2 at s2 erw hM2 ⊢
    have hrw0 := s1.free hrw
    walk_at "rd"
    refine ⟨Nat.zero_le _, fun st hst => ?_⟩
    have s3 : Same H2 (upd H2 st (.lst [])) := same_new hst
    have est : upd H2 st (.lst []) st = some (.lst []) := upd_same
    have hM3 := (hM2.more hst).same s3
    have erw3 := s3 _ _ erw
    have hstrw : st ≠ rw := (ne_of_none erw hst).symm
    generalize upd H2 st (.lst []) = H3 at s3 est hM3 erw3 ⊢
    have hst0 := (s1.trans s2).free hst
    have hN3 := hN.same ((s1.trans s2).trans s3)
    walk_at "rd"
    unfold tLstRg tRg1
    walk_at "rd"
    refine ⟨d, _, rfl, hN3.gl, ?_⟩
    walk_at "rd"
    refine ⟨_, _, rfl, .inl ⟨_, SqL.of hN3.links, by rw [List.length_map]⟩, ?_⟩
    refine ⟨_, rfl, RgOk.of_le (by decide) (by omega) (by decide) (by omega), fun f hf => ?_⟩
    have erg : rgV 0 ((N.links.length : Nat) : Int) = (List.range N.links.length).map iN := by
      unfold rgV
      rw [show (((N.links.length : Nat) : Int) - 0).toNat = N.links.length by omega]
      exact List.map_congr_left fun i _ => by show V.int _ = V.int _; rw [Int.zero_add]
    rw [erg]
    have s4 : Same H3 (upd H3 f (.lst ((List.range N.links.length).map iN))) := same_new hf
    have ef : upd H3 f (.lst ((List.range N.links.length).map iN)) f = some (.lst ((List.range N.links.length).map iN)) := upd_same
    have hM4 := (hM3.more hf).same s4
    have hfst : f ≠ st := (ne_of_none est hf).symm
    have hfrw : f ≠ rw := (ne_of_none erw3 hf).symm
    have est4 := s4 _ _ est
    have erw4 := s4 _ _ erw3
    generalize upd H3 f (.lst ((List.range N.links.length).map iN)) = H4 at s4 ef hM4 est4 erw4 ⊢
    have s04 : Same H H4 := ((s1.trans s2).trans s3).trans s4
    have hf0 := ((s1.trans s2).trans s3).free hf
    walk_at "rd"
    refine ⟨_, _, rfl, .inl ⟨_, SqL.of ef, by rw [List.length_map, List.length_range]⟩, ?_⟩
    refine ⟨_, _, rfl, ?_⟩
    rw [show (if ((N.links.length : Nat) : Int) < ((most : Nat) : Int) then ((N.links.length : Nat) : Int) else ((most : Nat) : Int)) = ((min most N.links.length : Nat) : Int) by split <;> omega]
    walk_at "rd"
    refine ⟨_, rfl, by omega, by omega, for_w (walk_range (lo := 0) (n := ((min most N.links.length : Nat) : Int).toNat)) (fun i σ H' => Kept H H' ∧ Pool p q cs H' ∧ (∃ (ha : Addr) (lsA : List (Addr × List Nat)) (S : List Step) (ts : List (Addr × Step)) (hh : List Rw) (fr : List Nat), RunX [f, st, rw] H' st rw N S ts hh ∧ S.length = i ∧ HasM [f, st, rw] H' ha (runS N N.rows S) lsA ∧
        H' f = some (.lst (fr.map iN)) ∧ fr.length + i = N.links.length ∧ fr.Nodup ∧ (∀ l ∈ fr, l < N.links.length ∧ l ∉ S.map (·.1)) ∧ ∃ v7 v8 v9 v10 v11, σ = [some (.ref p), some (.ref d), some (iN most), some (.ref ha), some (.ref rw), some (.ref st), some (.ref f), v7, v8, v9, v10, v11, none]))
      (by exact ⟨Same.kept s04, hp.same s04, D, ls0, [], [], [⟨D, N.rows, ls0⟩], List.range N.links.length, ⟨est4, rfl, (fun _ h => nomatch h), erw4, rfl, fun x hx => by cases List.mem_singleton.mp hx; exact hM4, rfl, (fun _ h => nomatch h)⟩, rfl, hM4, ef, by rw [List.length_range]; rfl, List.nodup_range, fun l hl => ⟨List.mem_range.mp hl, List.not_mem_nil⟩, none, none, none, none, none, rfl⟩) (fun _ _ _ _ _ => trivial) ?_ ?_⟩
    · rintro i y σ H0 H5 hi ⟨s5, p5, ha, lsA, S, ts, hh, fr, hX, hSl, hA, efr, hfl, hnd, hfr, v7, v8, v9, v10, v11, rfl⟩ ⟨rfl, rfl⟩
      have hi2 : i < N.links.length := by omega
      have hN5 := hN.kept s5
      walk_at "rd"
      refine ⟨.inl ⟨rfl, _, SqL.of efr⟩, ?_⟩
      walk_at "rd"
      refine ⟨_, _, rfl, .inl ⟨_, SqL.of efr, by rw [List.length_map]⟩, ?_⟩
      walk_at "rd"
      refine ⟨p, q, cs, _, rfl, p5, by omega, by omega, fun jz H6 j0 jn s6 p6 => ?_⟩
      obtain ⟨j, rfl⟩ : ∃ v : Nat, jz = ((v : Nat) : Int) := ⟨jz.toNat, by omega⟩
      have hjl : j < fr.length := by omega
      have efr6 := s6.get efr (isPool_ints (fr.map fun l : Nat => (l : Int)) |> fun h => by rw [List.map_map] at h; exact h)
      walk_at "rd"
      refine ⟨f, _, _, j, iN fr[j], rfl, rfl, efr6, by omega, by omega, seqIx (by rw [List.length_map]; exact hjl), by rw [List.getElem?_map, List.getElem?_eq_getElem hjl]; rfl, ?_⟩
      have eEr : (fr.map iN).eraseIdx j = (fr.eraseIdx j).map iN := erase_map _ _
      rw [eEr]
      obtain ⟨hl1, hl2⟩ := hfr _ (List.getElem_mem hjl)
      generalize hlv : fr[j] = l at hl1 hl2
      have hX6 : RunX [f, st, rw] (upd H6 f (.lst ((fr.eraseIdx j).map iN))) st rw N S ts hh := by
        refine ⟨?_, hX.eq, fun t ht => ?_, ?_, hX.req, fun x hx => ((hX.row x hx).kept s6).upd (by simp), hX.good, hX.ok⟩
        · rw [upd_ne hfst.symm]; exact s6.get hX.top (isPool_refs _ _)
        · have e := s6.get (hX.cell t ht)
          rw [upd_ne (ne_of e efr6 tup_lst)]; exact e
        · rw [upd_ne hfrw.symm]; exact s6.get hX.rtop (isPool_refs _ _)
      have hA6 : HasM [f, st, rw] (upd H6 f (.lst ((fr.eraseIdx j).map iN))) ha (runS N N.rows S) lsA := (hA.kept s6).upd (by simp)
      have sA : Kept H (upd H6 f (.lst ((fr.eraseIdx j).map iN))) := (s5.trans s6).mut hf0
      have pA : Pool p q cs (upd H6 f (.lst ((fr.eraseIdx j).map iN))) := Pool.mut' hp p6 hf0
      have efA : upd H6 f (.lst ((fr.eraseIdx j).map iN)) f = some (.lst ((fr.eraseIdx j).map iN)) := upd_same
      show tSeq _ _ _ _ (upd H6 f (.lst ((fr.eraseIdx j).map iN)))
      generalize upd H6 f (.lst ((fr.eraseIdx j).map iN)) = H7 at hX6 hA6 sA pA efA ⊢
      have hN7 := hN.kept sA
      have hlk := ok.link hl1
      walk_at "rd"
      refine ⟨d, _, rfl, hN7.gl, ?_⟩
      walk_at "rd"
      refine r_ixL hN7.links l rfl (hN7.link hl1) ?_
      walk_at "rd"
      refine r_ixS (lk_len _) 0 rfl (lk_0 _) ?_
      refine ⟨_, _, (N.links.getD l (0, 0)).1, [], rfl, rfl, n_index _ (by omega), ?_⟩
      walk_at "rd"
      refine ⟨d, _, rfl, hN7.gl, ?_⟩
      walk_at "rd"
      refine r_ixL hN7.links l rfl (hN7.link hl1) ?_
      walk_at "rd"
      refine r_ixS (lk_len _) 1 rfl (lk_1 _) ?_
      refine ⟨_, _, (N.links.getD l (0, 0)).2, [], rfl, rfl, n_index _ (by omega), ?_⟩
      walk_at "rd"
      have hrl7 := runS_len (N := N) (S := S) (h := N.rows)
      generalize hsd : (N.links.getD l (0, 0)).1 = sd at hlk
      generalize hrc : (N.links.getD l (0, 0)).2 = rc at hlk
      obtain ⟨srw, hsrw, hsmem, hseq⟩ := hA6.at_ (i := sd) (by omega)
      obtain ⟨row, hrow, hmem, hreq⟩ := hA6.at_ (i := rc) (by omega)
      have hb := runS_lt (N := N) (S := S) hX.ok (rows_lt2 ok)
      have hsz := runS_bound (N := N) (S := S) (h := N.rows) ok.rl
      have inR : ∀ {x : Nat}, x < N.rows.length → (runS N N.rows S).getD x [] ∈ runS N N.rows S := fun {x} hx => by
        rw [getD_eq (by omega)]; exact List.getElem_mem _
      have hbs : ∀ m ∈ srw.2, m < 2 ^ N.v := fun m hm => hb _ (inR hlk.1) m (hseq ▸ hm)
      have hrs := hsz _ (inR hlk.2.1)
      rw [← hreq] at hrs
      refine r_ixL (v := .ref srw.1) hA6.top sd rfl (by rw [List.getElem?_map, hsrw]; rfl) ?_
      refine ⟨srw.1, srw.2, rfl, hA6.row _ hsmem, fun m hm => pow16 ok.v (hbs m hm), fun hd L H8 s8 hhd eL hSp => ?_⟩
      have hLs := hSp.size (fun m hm => pow16 ok.v (hbs m hm))
      walk_at "rd"
      refine ⟨p, q, hd, cs, _, rfl, pA.same s8, eL, isPool_strs txt _, ?_, by rw [List.length_map]; omega, fun j2 x H9 hx s9 p9 => ?_⟩
      · rw [List.length_map]
        exact List.length_pos_of_mem ((hSp.iff 0).mpr (mem_zero _))
      rw [List.getElem?_map] at hx
      cases hL2 : L[j2]? with
      | none => rw [hL2] at hx; cases hx
      | some m =>
        rw [hL2] at hx
        cases hx
        have hmem2 : mem srw.2 m = true := (hSp.iff m).mp (List.mem_of_getElem? hL2)
        have hmv : m < 2 ^ N.v := mem_ltv hbs hmem2
        have s79 : Kept H7 H9 := (Same.kept s8).trans s9
        have hA9 := hA6.kept s79
        have est9 := s79.get hX6.top (isPool_refs _ _)
        have erw9 := s79.get hX6.rtop (isPool_refs _ _)
        have efr9 := s79.get efA (isPool_ints ((fr.eraseIdx j).map fun l : Nat => (l : Int)) |> fun h => by rw [List.map_map] at h; exact h)
        have ecl9 : ∀ t ∈ ts, H9 t.1 = some (.tup (stepV t.2.1 t.2.2)) := fun t ht => s79.get (hX6.cell t ht)
        have erow9 : ∀ x ∈ hh, HasM [f, st, rw] H9 x.a x.h x.ls := fun x hx => (hX6.row x hx).kept s79
        have sB := sA.trans s79
        walk_at "rd"
        refine ⟨.inl ⟨rfl, _, SqL.of est9⟩, ?_⟩
        walk_at "rd"
        refine ⟨(by show 2 ≤ sizeLine; decide), fun T hT => ?_⟩
        have sT : Same H9 (upd H9 T (.tup (stepV l m))) := same_new hT
        have eT : upd H9 T (.tup (stepV l m)) T = some (.tup (stepV l m)) := upd_same
        show tNil _ (upd H9 T (.tup (stepV l m))) _
        generalize upd H9 T (.tup (stepV l m)) = HT at sT eT ⊢
        have htl : ts.length = S.length := by rw [← hX.eq, List.length_map]
        walk_at "rd"
        refine ⟨st, _, _, rfl, rfl, sT _ _ est9, by rw [List.length_map]; omega, ?_⟩
        have estN : (ts.map fun t => V.ref t.1) ++ [.ref T] = (ts ++ [(T, (l, m))]).map fun t => V.ref t.1 := by rw [List.map_append]; rfl
        rw [estN]
        have htS : ∀ {b xs}, HT b = some (.tup xs) → upd HT st (.lst ((ts ++ [(T, (l, m))]).map fun t => V.ref t.1)) b = some (.tup xs) := fun {b xs} e => by rw [upd_ne (ne_of e (sT _ _ est9) tup_lst)]; exact e
        have c10 : ∀ t ∈ ts ++ [(T, (l, m))], upd HT st (.lst ((ts ++ [(T, (l, m))]).map fun t => V.ref t.1)) t.1 = some (.tup (stepV t.2.1 t.2.2)) := fun t ht => by
          rcases List.mem_append.mp ht with q | q
          · exact htS (sT _ _ (ecl9 t q))
          · cases List.mem_singleton.mp q
            exact htS eT
        have e10 : upd HT st (.lst ((ts ++ [(T, (l, m))]).map fun t => V.ref t.1)) st = some (.lst ((ts ++ [(T, (l, m))]).map fun t => V.ref t.1)) := upd_same
        have rw10 : upd HT st (.lst ((ts ++ [(T, (l, m))]).map fun t => V.ref t.1)) rw = some (.lst (hh.map fun x => .ref x.a)) := by rw [upd_ne hstrw.symm]; exact sT _ _ erw9
        have fr10 : upd HT st (.lst ((ts ++ [(T, (l, m))]).map fun t => V.ref t.1)) f = some (.lst ((fr.eraseIdx j).map iN)) := by rw [upd_ne hfst]; exact sT _ _ efr9
        have hA10 : HasM [f, st, rw] (upd HT st (.lst ((ts ++ [(T, (l, m))]).map fun t => V.ref t.1))) ha (runS N N.rows S) lsA := (hA9.same sT).upd (by simp)
        have row10 : ∀ x ∈ hh, HasM [f, st, rw] (upd HT st (.lst ((ts ++ [(T, (l, m))]).map fun t => V.ref t.1))) x.a x.h x.ls := fun x hx => ((erow9 x hx).same sT).upd (by simp)
        have sC : Kept H (upd HT st (.lst ((ts ++ [(T, (l, m))]).map fun t => V.ref t.1))) := (sB.same sT).mut hst0
        have pC : Pool p q cs (upd HT st (.lst ((ts ++ [(T, (l, m))]).map fun t => V.ref t.1))) := Pool.mut' hp (p9.same sT) hst0
        generalize upd HT st (.lst ((ts ++ [(T, (l, m))]).map fun t => V.ref t.1)) = H10 at c10 e10 rw10 fr10 hA10 row10 sC pC ⊢
        have hll := hA10.len
        have hrl : rc < lsA.length := by omega
        walk_at "rd"
        refine ⟨_, rfl, ?_⟩
        refine ⟨ha, _, rfl, SqL.of hA10.top, fun f1 hf1 => ?_⟩
        rw [cut_take, ← List.map_take]
        have q1 : Same H10 (upd H10 f1 (.lst ((lsA.take rc).map fun l => V.ref l.1))) := same_new hf1
        have e1 : upd H10 f1 (.lst ((lsA.take rc).map fun l => V.ref l.1)) f1 = some (.lst ((lsA.take rc).map fun l => V.ref l.1)) := upd_same
        generalize upd H10 f1 (.lst ((lsA.take rc).map fun l => V.ref l.1)) = H11 at q1 e1 ⊢
        walk_at "rd"
        refine r_ixL (v := .ref row.1) (q1 _ _ hA10.top) rc rfl (by rw [List.getElem?_map, hrow]; rfl) ?_
        walk_at "rd"
        refine ⟨(by show 1 ≤ sizeLine; decide), fun u hu2 => ?_⟩
        have q3 : Same H11 (upd H11 u (.lst [tv m])) := same_new hu2
        have eu : upd H11 u (.lst [tv m]) u = some (.lst [tv m]) := upd_same
        generalize upd H11 u (.lst [tv m]) = H13 at q3 eu ⊢
        refine ⟨row.1, u, _, _, rfl, rfl, q3 _ _ (q1 _ _ (hA10.row _ hmem)), eu, by rw [List.length_map]; show _ + 1 ≤ _; omega, fun g hg => ?_⟩
        have eg0 : (row.2.map tv) ++ [tv m] = (row.2 ++ [m]).map tv := by rw [List.map_append]; rfl
        rw [eg0]
        have q4 : Same H13 (upd H13 g (.lst ((row.2 ++ [m]).map tv))) := same_new hg
        have eg : upd H13 g (.lst ((row.2 ++ [m]).map tv)) g = some (.lst ((row.2 ++ [m]).map tv)) := upd_same
        have hgZ : g ∉ [f, st, rw] := fun z => by
          have q13 := q1.trans q3
          simp only [List.mem_cons, List.not_mem_nil, or_false] at z
          rcases z with z | z | z
          · rw [z, q13 _ _ fr10] at hg; cases hg
          · rw [z, q13 _ _ e10] at hg; cases hg
          · rw [z, q13 _ _ rw10] at hg; cases hg
        generalize upd H13 g (.lst ((row.2 ++ [m]).map tv)) = H14 at q4 eg ⊢
        walk_at "rd"
        refine ⟨(by show 1 ≤ sizeLine; decide), fun u2 hu3 => ?_⟩
        have q5 : Same H14 (upd H14 u2 (.lst [.ref g])) := same_new hu3
        have eu2 : upd H14 u2 (.lst [.ref g]) u2 = some (.lst [.ref g]) := upd_same
        generalize upd H14 u2 (.lst [.ref g]) = H15 at q5 eu2 ⊢
        refine ⟨f1, u2, _, _, rfl, rfl, q5 _ _ (q4 _ _ (q3 _ _ e1)), eu2, by rw [List.length_map, List.length_take]; show _ + 1 ≤ _; omega, fun f2 hf2 => ?_⟩
        have ef2 : ((lsA.take rc).map fun l => V.ref l.1) ++ [V.ref g] = (lsA.take rc ++ [(g, row.2 ++ [m])]).map fun l => V.ref l.1 := by rw [List.map_append]; rfl
        rw [ef2]
        have q6 : Same H15 (upd H15 f2 (.lst ((lsA.take rc ++ [(g, row.2 ++ [m])]).map fun l => V.ref l.1))) := same_new hf2
        have e6 : upd H15 f2 (.lst ((lsA.take rc ++ [(g, row.2 ++ [m])]).map fun l => V.ref l.1)) f2 = some (.lst ((lsA.take rc ++ [(g, row.2 ++ [m])]).map fun l => V.ref l.1)) := upd_same
        generalize upd H15 f2 (.lst ((lsA.take rc ++ [(g, row.2 ++ [m])]).map fun l => V.ref l.1)) = H16 at q6 e6 ⊢
        have q16 : Same H10 H16 := q1.trans (q3.trans (q4.trans (q5.trans q6)))
        walk_at "rd"
        refine ⟨_, rfl, ?_⟩
        walk_at "rd"
        refine ⟨ha, _, rfl, SqL.of (q16 _ _ hA10.top), fun f3 hf3 => ?_⟩
        rw [show ((rc : Nat) : Int) + 1 = ((rc + 1 : Nat) : Int) from rfl, cut_drop, ← List.map_drop]
        have q7 : Same H16 (upd H16 f3 (.lst ((lsA.drop (rc + 1)).map fun l => V.ref l.1))) := same_new hf3
        have e7 : upd H16 f3 (.lst ((lsA.drop (rc + 1)).map fun l => V.ref l.1)) f3 = some (.lst ((lsA.drop (rc + 1)).map fun l => V.ref l.1)) := upd_same
        generalize upd H16 f3 (.lst ((lsA.drop (rc + 1)).map fun l => V.ref l.1)) = H17 at q7 e7 ⊢
        refine ⟨f2, f3, _, _, rfl, rfl, q7 _ _ e6, e7, by rw [List.length_map, List.length_map, List.length_append, List.length_take, List.length_drop]; show _ + 1 + _ ≤ _; omega, fun f4 hf4 => ?_⟩
        rw [← List.map_append]
        have eset : lsA.take rc ++ [(g, row.2 ++ [m])] ++ lsA.drop (rc + 1) = lsA.set rc (g, row.2 ++ [m]) := by
          rw [List.append_assoc, List.set_eq_take_append_cons_drop, if_pos hrl]; rfl
        rw [eset]
        have q8 : Same H17 (upd H17 f4 (.lst ((lsA.set rc (g, row.2 ++ [m])).map fun l => V.ref l.1))) := same_new hf4
        have e8 : upd H17 f4 (.lst ((lsA.set rc (g, row.2 ++ [m])).map fun l => V.ref l.1)) f4 = some (.lst ((lsA.set rc (g, row.2 ++ [m])).map fun l => V.ref l.1)) := upd_same
        have hf4Z : f4 ∉ [f, st, rw] := fun z => by
          have q17 := q16.trans q7
          simp only [List.mem_cons, List.not_mem_nil, or_false] at z
          rcases z with z | z | z
          · rw [z, q17 _ _ fr10] at hf4; cases hf4
          · rw [z, q17 _ _ e10] at hf4; cases hf4
          · rw [z, q17 _ _ rw10] at hf4; cases hf4
        generalize upd H17 f4 (.lst ((lsA.set rc (g, row.2 ++ [m])).map fun l => V.ref l.1)) = H18 at q8 e8 ⊢
        have q08 : Same H10 H18 := q16.trans (q7.trans q8)
        have q48 : Same H14 H18 := q5.trans (q6.trans (q7.trans q8))
        have enx : runS N N.rows (S ++ [(l, m)]) = (runS N N.rows S).set rc ((runS N N.rows S).getD rc [] ++ [m]) := by
          rw [runS_snoc]
          unfold send rcv
          rw [hrc]
        have hB : HasM [f, st, rw] H18 f4 (runS N N.rows (S ++ [(l, m)])) (lsA.set rc (g, row.2 ++ [m])) := by
          refine ⟨e8, ?_, fun x hx => ?_, hf4Z, fun x hx => ?_⟩
          · rw [List.map_set, hA10.eq, enx, ← hreq]
          · rcases List.mem_or_eq_of_mem_set hx with q | rfl
            · exact q08 _ _ (hA10.row x q)
            · exact q48 _ _ eg
          · rcases List.mem_or_eq_of_mem_set hx with q | rfl
            · exact hA10.nl x q
            · exact hgZ
        have e18 := q08 _ _ e10
        have rw18 := q08 _ _ rw10
        have fr18 := q08 _ _ fr10
        have hhl : hh.length = S.length + 1 := by
          have := congrArg List.length hX.req
          rwa [List.length_map, List.length_map, List.length_range] at this
        walk_at "rd"
        refine ⟨.inl ⟨rfl, _, SqL.of rw18⟩, ?_⟩
        walk_at "rd"
        refine ⟨rw, _, _, rfl, rfl, rw18, by rw [List.length_map]; omega, ?_⟩
        have ehN : (hh.map fun x => V.ref x.a) ++ [.ref f4] = (hh ++ [(⟨f4, runS N N.rows (S ++ [(l, m)]), lsA.set rc (g, row.2 ++ [m])⟩ : Rw)]).map fun x : Rw => V.ref x.a := by rw [List.map_append]; rfl
        rw [ehN]
        walk_at "rd"
        have hSn : (S ++ [(l, m)]).length = i + 1 := by rw [List.length_append, hSl]; rfl
        refine ⟨(sC.same q08).mut hrw0, Pool.mut' hp (pC.same q08) hrw0, f4, lsA.set rc (g, row.2 ++ [m]), S ++ [(l, m)], ts ++ [(T, (l, m))], hh ++ [⟨f4, runS N N.rows (S ++ [(l, m)]), lsA.set rc (g, row.2 ++ [m])⟩], fr.eraseIdx j, ⟨?_, ?_, fun t ht => ?_, upd_same, ?_, fun x hx => ?_, ?_, fun x hx => ?_⟩, hSn, hB.upd (by simp), ?_, ?_, hnd.eraseIdx _, fun x hx => ?_, _, _, _, _, _, rfl⟩
        · rw [upd_ne hstrw]; exact e18
        · rw [List.map_append, hX.eq]; rfl
        · have e := q08 _ _ (c10 t ht)
          rw [upd_ne (ne_of e rw18 tup_lst)]; exact e
        · rw [List.map_append, hX.req, List.length_append, show S.length + [(l, m)].length + 1 = S.length + 1 + 1 from rfl, List.range_succ (n := S.length + 1), List.map_append]
          congr 1
          · refine List.map_congr_left fun x hx => ?_
            have := List.mem_range.mp hx
            rw [List.take_append_of_le_length (by omega)]
          · show [runS N N.rows (S ++ [(l, m)])] = [runS N N.rows ((S ++ [(l, m)]).take (S.length + 1))]
            rw [List.take_of_length_le (by rw [List.length_append]; exact Nat.le_refl _)]
        · rcases List.mem_append.mp hx with q | q
          · exact ((row10 x q).same q08).upd (by simp)
          · cases List.mem_singleton.mp q
            exact hB.upd (by simp)
        · refine good_snoc hX.good ?_
          unfold okAt sdr
          rw [hsd, decide_eq_false (show ¬ (l ∈ [] ++ S.map (·.1)) from hl2), ← hseq, hmem2]
          rfl
        · rcases List.mem_append.mp hx with q | q
          · exact hX.ok x q
          · cases List.mem_singleton.mp q
            exact ⟨hl1, hmv⟩
        · rw [upd_ne hfrw]; exact fr18
        · rw [List.length_eraseIdx, if_pos hjl]; omega
        · have hx2 := List.mem_of_mem_eraseIdx hx
          obtain ⟨z1, z2⟩ := hfr x hx2
          refine ⟨z1, fun z => ?_⟩
          rw [List.map_append] at z
          rcases List.mem_append.mp z with q | q
          · exact z2 q
          · have q : x = l := List.mem_singleton.mp q
            rw [q, ← hlv] at hx
            exact absurd hx (nodup_erase hnd hjl)
    · rintro σ H5 ⟨s5, p5, ha, lsA, S, ts, hh, fr, hX, hSl, hA, efr, hfl, hnd, hfr, v7, v8, v9, v10, v11, rfl⟩
      walk_at "rd"
      refine fun T hT => ?_
      dsimp only [tPairs]
      walk_at "rd"
      refine ⟨upd_same, [(.inr (Str.ofString "steps"), .ref st), (.inr (Str.ofString "rows"), .ref rw)], rfl, (by show 2 ≤ 15; decide), ?_⟩
      rw [sr_new]
      have s7 : Same H5 (upd (upd H5 T (.dK [])) T (.dK [(.inr (Str.ofString "steps"), .ref st), (.inr (Str.ofString "rows"), .ref rw)])) := Same.mut (same_new hT) hT
      have e7 : upd (upd H5 T (.dK [])) T (.dK [(.inr (Str.ofString "steps"), .ref st), (.inr (Str.ofString "rows"), .ref rw)]) T = some (.dK [(.inr (Str.ofString "steps"), .ref st), (.inr (Str.ofString "rows"), .ref rw)]) := upd_same
      generalize upd (upd H5 T (.dK [])) T (.dK [(.inr (Str.ofString "steps"), .ref st), (.inr (Str.ofString "rows"), .ref rw)]) = H7 at s7 e7
      exact k T st rw _ S ts hh H7 (s5.same s7) (p5.same s7) (s5.dom _ hT) e7 ⟨s7 _ _ hX.top, hX.eq, fun t ht => s7 _ _ (hX.cell t ht), s7 _ _ hX.rtop, hX.req, fun x hx => (hX.row x hx).same s7, hX.good, hX.ok⟩ (by omega)
end
end Kn
set_option Elab.async false
set_option linter.all false
set_option maxRecDepth 100000
set_option maxHeartbeats 4000000
namespace Kn
open PySem PySem.Spec PyProof.Rows L2
/-! ### the plain law: two neighbours exchanged -/
theorem good_app {N : Net} : ∀ {P R : List Step} {h : List (List Nat)} {us : List Nat}, good N h us (P ++ R) = (good N h us P && good N (runS N h P) (us ++ P.map (·.1)) R)
  | [], R, h, us => by
    rw [List.map_nil, List.append_nil]
    show good N h us R = (true && good N h us R)
    rw [Bool.true_and]
  | s :: P, R, h, us => by
    show (okAt N h us s && good N (send N h s) (us ++ [s.1]) (P ++ R)) = ((okAt N h us s && good N (send N h s) (us ++ [s.1]) P) && good N (runS N (send N h s) P) (us ++ (s.1 :: P.map (·.1))) R)
    rw [good_app, Bool.and_assoc, List.append_assoc]
    rfl
theorem runS_app {N : Net} {P R : List Step} {h : List (List Nat)} : runS N h (P ++ R) = runS N (runS N h P) R := by
  unfold runS
  rw [List.foldl_append]
theorem getD_set {α : Type} {h : List (List α)} {r i : Nat} {x : List α} : (h.set r x).getD i [] = if r = i ∧ r < h.length then x else h.getD i [] := by
  rw [List.getD_eq_getElem?_getD, List.getElem?_set]
  by_cases c : r = i
  · subst c
    by_cases c2 : r < h.length
    · rw [if_pos rfl, if_pos c2, if_pos ⟨rfl, c2⟩]; rfl
    · rw [if_pos rfl, if_neg c2, if_neg (fun z => c2 z.2), List.getD_eq_getElem?_getD, List.getElem?_eq_none (by omega)]
  · rw [if_neg c, if_neg (fun z => c z.1), ← List.getD_eq_getElem?_getD]
/-- node for node the same up to order -/
def pw (h h' : List (List Nat)) : Prop := h.length = h'.length ∧ ∀ i, (h.getD i []).Perm (h'.getD i [])
theorem pw.send {N : Net} {h h' : List (List Nat)} {s : Step} (p : pw h h') : pw (send N h s) (send N h' s) := by
  refine ⟨by unfold Kn.send; rw [List.length_set, List.length_set]; exact p.1, fun i => ?_⟩
  unfold Kn.send
  rw [getD_set, getD_set, p.1]
  split
  · exact (p.2 _).append_right _
  · exact p.2 i
theorem pw.swap {N : Net} {h : List (List Nat)} {a b : Step} : pw (Kn.send N (Kn.send N h a) b) (Kn.send N (Kn.send N h b) a) := by
  refine ⟨by unfold Kn.send; simp only [List.length_set], fun i => ?_⟩
  have e1 : ∀ x y : Step, (Kn.send N (Kn.send N h x) y).getD i [] = if rcv N y = i ∧ rcv N y < h.length then (if rcv N x = i ∧ rcv N x < h.length then h.getD i [] ++ [x.2] else h.getD i []) ++ [y.2] else (if rcv N x = i ∧ rcv N x < h.length then h.getD i [] ++ [x.2] else h.getD i []) := fun x y => by
    have l1 : (Kn.send N h x).length = h.length := by unfold Kn.send; rw [List.length_set]
    have g1 : ∀ j, (Kn.send N h x).getD j [] = if rcv N x = j ∧ rcv N x < h.length then h.getD j [] ++ [x.2] else h.getD j [] := fun j => by
      unfold Kn.send
      rw [getD_set]
      split
      · rename_i c; rw [c.1]
      · rfl
    rw [show Kn.send N (Kn.send N h x) y = (Kn.send N h x).set (rcv N y) ((Kn.send N h x).getD (rcv N y) [] ++ [y.2]) from rfl, getD_set, l1, g1, g1]
    split
    · rename_i c; rw [c.1]
    · rfl
  rw [e1, e1]
  split <;> split <;> first
    | exact .refl _
    | (rw [List.append_assoc, List.append_assoc]; exact (List.Perm.swap _ _ []).append_left _)
theorem pw.ok {N : Net} {h h' : List (List Nat)} {us us' : List Nat} {s : Step} (p : pw h h') (u : ∀ x, x ∈ us ↔ x ∈ us') : okAt N h us s = okAt N h' us' s := by
  unfold okAt
  rw [mem_perm (p.2 _)]
  congr 2
  exact decide_eq_decide.mpr (u _)
theorem pw.good {N : Net} : ∀ {R : List Step} {h h' : List (List Nat)} {us us' : List Nat}, pw h h' → (∀ x, x ∈ us ↔ x ∈ us') → Kn.good N h us R = Kn.good N h' us' R
  | [], _, _, _, _, _, _ => rfl
  | s :: R, h, h', us, us', p, u => by
    show (okAt N h us s && Kn.good N (Kn.send N h s) (us ++ [s.1]) R) = (okAt N h' us' s && Kn.good N (Kn.send N h' s) (us' ++ [s.1]) R)
    have ih := pw.good (N := N) (R := R) (h := Kn.send N h s) (h' := Kn.send N h' s) (us := us ++ [s.1]) (us' := us' ++ [s.1]) (pw.send p) fun x => by rw [List.mem_append, List.mem_append, u]
    rw [p.ok u, ih]
theorem pw.run {N : Net} : ∀ {R : List Step} {h h' : List (List Nat)}, pw h h' → pw (runS N h R) (runS N h' R)
  | [], _, _, p => p
  | s :: R, h, h', p => pw.run (R := R) p.send
theorem mem_send {N : Net} {h : List (List Nat)} {s : Step} {i x : Nat} (e : mem (h.getD i []) x = true) : mem ((send N h s).getD i []) x = true := by
  unfold send
  rw [getD_set]
  split
  · rename_i c
    rw [c.1]
    exact mem_append' e
  · exact e
theorem swap_split {S : List Step} {k : Nat} (hk : k + 1 < S.length) : S = S.take k ++ (S.getD k (0, 0) :: S.getD (k + 1) (0, 0) :: S.drop (k + 2)) := by
  rw [getD_eq (show k < S.length by omega), getD_eq hk]
  rw [← List.drop_eq_getElem_cons hk, ← List.drop_eq_getElem_cons (show k < S.length by omega), List.take_append_drop]
theorem swap_at {S : List Step} {k : Nat} (hk : k + 1 < S.length) : swapAt S k = S.take k ++ (S.getD (k + 1) (0, 0) :: S.getD k (0, 0) :: S.drop (k + 2)) := by
  unfold swapAt
  generalize hx : S.getD k (0, 0) = x
  generalize hy : S.getD (k + 1) (0, 0) = y
  rw [List.set_eq_take_append_cons_drop, if_pos (by rw [List.length_set]; exact hk), List.take_set, List.drop_set_of_lt (by omega), List.take_add_one, List.getElem?_eq_getElem (show k < S.length by omega)]
  rw [List.set_append_right _ _ (by rw [List.length_take]; omega), List.length_take, Nat.min_eq_left (by omega), Nat.sub_self]
  rw [List.append_assoc]
  rfl
theorem swap_good {N : Net} {S : List Step} {k : Nat} (hk : k + 1 < S.length) (g : good N N.rows [] S = true) :
    good N N.rows [] (swapAt S k) = mem ((runS N N.rows (S.take k)).getD (sdr N (S.getD (k + 1) (0, 0))) []) (S.getD (k + 1) (0, 0)).2 := by
  rw [swap_split hk] at g
  rw [swap_at hk]
  generalize S.getD k (0, 0) = a at g ⊢
  generalize S.getD (k + 1) (0, 0) = b at g ⊢
  generalize S.drop (k + 2) = R at g ⊢
  generalize S.take k = P at g ⊢
  rw [good_app, Bool.and_eq_true] at g
  rw [good_app, g.1, Bool.true_and]
  replace g := g.2
  generalize runS N N.rows P = h at g ⊢
  generalize ([] : List Nat) ++ P.map (·.1) = us at g ⊢
  have g1 : (okAt N h us a && (okAt N (send N h a) (us ++ [a.1]) b && good N (send N (send N h a) b) (us ++ [a.1] ++ [b.1]) R)) = true := g
  rw [Bool.and_eq_true, Bool.and_eq_true] at g1
  obtain ⟨ga, gb, gR⟩ := g1
  show (okAt N h us b && (okAt N (send N h b) (us ++ [b.1]) a && good N (send N (send N h b) a) (us ++ [b.1] ++ [a.1]) R)) = _
  have hR : good N (send N (send N h b) a) (us ++ [b.1] ++ [a.1]) R = true := by
    rw [← pw.good pw.swap (fun x => ?_)]
    · exact gR
    · simp only [List.mem_append, List.mem_singleton]
      constructor
      · rintro ((h | h) | h)
        · exact .inl (.inl h)
        · exact .inr h
        · exact .inl (.inr h)
      · rintro ((h | h) | h)
        · exact .inl (.inl h)
        · exact .inr h
        · exact .inl (.inr h)
  unfold okAt at ga gb
  rw [Bool.and_eq_true] at ga gb
  have na : a.1 ∉ us := by simpa using ga.1
  have nb : b.1 ∉ us ++ [a.1] := by simpa using gb.1
  have nb1 : b.1 ∉ us := fun z => nb (List.mem_append_left _ z)
  have nab : a.1 ∉ us ++ [b.1] := fun z => by
    rcases List.mem_append.mp z with q | q
    · exact na q
    · exact nb (List.mem_append_right _ (by rw [List.mem_singleton.mp q]; exact List.mem_singleton.mpr rfl))
  rw [hR, Bool.and_true]
  unfold okAt
  rw [decide_eq_false nb1, decide_eq_false nab, mem_send ga.2]
  simp
theorem swap_ranks {N : Net} {S : List Step} {k : Nat} (ok : NetOK N) (so : stOK N S) (hk : k + 1 < S.length) : (runS N N.rows (swapAt S k)).map rk = (runS N N.rows S).map rk := by
  have p : pw (runS N N.rows S) (runS N N.rows (swapAt S k)) := by
    rw [swap_at hk]
    conv => lhs; rw [swap_split hk]
    rw [runS_app, runS_app]
    exact pw.run (R := S.drop (k + 2)) pw.swap
  have hb := runS_lt (N := N) (S := S) so (rows_lt2 ok)
  refine List.ext_getElem (by rw [List.length_map, List.length_map]; exact p.1.symm) fun i h1 h2 => ?_
  rw [List.length_map] at h1 h2
  rw [List.getElem_map, List.getElem_map]
  have e := p.2 i
  rw [getD_eq h1, getD_eq h2] at e
  exact (rk_perm (fun m hm => pow16 ok.v (hb _ (List.getElem_mem h2) m hm)) e).symm
/-! ### what enters a set -/
def tog (n S : Nat) (h : List (List Nat)) : List Nat := (List.range n).flatMap fun i => if S.testBit i then h.getD i [] else []
theorem mem_tog {n S : Nat} {h : List (List Nat)} {x : Nat} : x ∈ tog n S h ↔ ∃ i < n, S.testBit i = true ∧ x ∈ h.getD i [] := by
  unfold tog
  rw [List.mem_flatMap]
  constructor
  · rintro ⟨i, hi, e⟩
    split at e
    · exact ⟨i, List.mem_range.mp hi, by assumption, e⟩
    · cases e
  · rintro ⟨i, hi, hb, e⟩
    exact ⟨i, List.mem_range.mpr hi, by rw [if_pos hb]; exact e⟩
theorem sub_refl (ms : List Nat) : sub ms ms := fun _ e => e
theorem sub.trans {a b c : List Nat} (h1 : sub a b) (h2 : sub b c) : sub a c := fun x e => h2 x (h1 x e)
theorem sub_mem {a b : List Nat} (h : ∀ m ∈ a, m ∈ b) : sub a b := sub_of fun m hm => mem_self (h m hm)
def inw (N : Net) (S : Nat) (Ss : List Step) : Nat := (Ss.filter fun s => enters S (N.links.getD s.1 (0, 0))).length
theorem cut_step {N : Net} {n S : Nat} {h : List (List Nat)} {s : Step} (hl : h.length = n) (hs : sdr N s < n) (hr : rcv N s < n) (hb : ∀ r ∈ h, ∀ m ∈ r, m < 16) (hm : mem (h.getD (sdr N s) []) s.2 = true) :
    rk (tog n S (send N h s)) ≤ rk (tog n S h) + if enters S (N.links.getD s.1 (0, 0)) then 1 else 0 := by
  have b0 : ∀ m ∈ tog n S h, m < 16 := fun m hm => by
    obtain ⟨i, hi, _, e⟩ := mem_tog.mp hm
    exact hb _ (by rw [getD_eq (by omega)]; exact List.getElem_mem _) m e
  have hs16 : s.2 < 16 := mem_lt (fun m hm => hb _ (by rw [getD_eq (by omega)]; exact List.getElem_mem _) m hm) hm
  have b1 : ∀ m ∈ s.2 :: tog n S h, m < 16 := fun m hm => by
    rcases List.mem_cons.mp hm with e | e
    · rw [e]; exact hs16
    · exact b0 m e
  have sub1 : ∀ m ∈ tog n S (send N h s), m ∈ tog n S h ∨ (m = s.2 ∧ S.testBit (rcv N s) = true) := fun m hm => by
    obtain ⟨i, hi, hbi, e⟩ := mem_tog.mp hm
    unfold send at e
    rw [getD_set] at e
    split at e
    · rename_i c
      rcases List.mem_append.mp e with q | q
      · exact .inl (mem_tog.mpr ⟨i, hi, hbi, by rw [← c.1]; exact q⟩)
      · exact .inr ⟨List.mem_singleton.mp q, by rw [c.1]; exact hbi⟩
    · exact .inl (mem_tog.mpr ⟨i, hi, hbi, e⟩)
  have b2 : ∀ m ∈ tog n S (send N h s), m < 16 := fun m hm => by
    rcases sub1 m hm with e | e
    · exact b0 m e
    · rw [e.1]; exact hs16
  by_cases c1 : S.testBit (rcv N s) = true
  · by_cases c2 : S.testBit (sdr N s) = true
    · refine Nat.le_trans ?_ (Nat.le_add_right _ _)
      refine rk_mono b2 b0 (sub_of fun m hm2 => ?_)
      rcases sub1 m hm2 with e | e
      · exact mem_self e
      · rw [e.1]
        exact sub_mem (fun x hx => mem_tog.mpr ⟨_, hs, c2, hx⟩) _ hm
    · have en : enters S (N.links.getD s.1 (0, 0)) = true := by
        unfold enters
        show (S.testBit (rcv N s) && !S.testBit (sdr N s)) = true
        rw [c1, Bool.eq_false_iff.mpr c2]; rfl
      rw [en, if_pos rfl]
      refine Nat.le_trans (rk_mono b2 b1 (sub_mem fun m hm2 => ?_)) (rk_cons_le _ _)
      rcases sub1 m hm2 with e | e
      · exact List.mem_cons_of_mem _ e
      · rw [e.1]; exact List.mem_cons_self
  · refine Nat.le_trans ?_ (Nat.le_add_right _ _)
    refine rk_mono b2 b0 (sub_mem fun m hm2 => ?_)
    rcases sub1 m hm2 with e | e
    · exact e
    · exact absurd e.2 c1
theorem send_lt16 {N : Net} {h : List (List Nat)} {s : Step} (hb : ∀ r ∈ h, ∀ m ∈ r, m < 16) (hs : s.2 < 16) : ∀ r ∈ send N h s, ∀ m ∈ r, m < 16 := fun y hy m hm => by
  rcases mem_set_snoc hy hm with e | ⟨z, hz, e⟩
  · rw [e]; exact hs
  · exact hb z hz m e
theorem cut_run {N : Net} (ok : NetOK N) {S : Nat} : ∀ {Ss : List Step} {h : List (List Nat)} {us : List Nat}, h.length = N.rows.length → (∀ r ∈ h, ∀ m ∈ r, m < 16) → stOK N Ss → good N h us Ss = true →
    rk (tog N.rows.length S (runS N h Ss)) ≤ rk (tog N.rows.length S h) + inw N S Ss
  | [], h, us, _, _, _, _ => Nat.le_add_right _ _
  | s :: Ss, h, us, hl, hb, so, g => by
    have g' : (okAt N h us s && good N (send N h s) (us ++ [s.1]) Ss) = true := g
    rw [Bool.and_eq_true] at g'
    have hm : mem (h.getD (sdr N s) []) s.2 = true := by
      have := g'.1
      unfold okAt at this
      rw [Bool.and_eq_true] at this
      exact this.2
    obtain ⟨l1, l2⟩ := so s List.mem_cons_self
    have hlk := ok.link l1
    have c := cut_step (S := S) hl hlk.1 hlk.2.1 hb hm
    have ih := cut_run ok (S := S) (Ss := Ss) (h := send N h s) (us := us ++ [s.1]) (by unfold send; rw [List.length_set]; exact hl) (send_lt16 hb (pow16 ok.v l2)) (fun x hx => so x (List.mem_cons_of_mem _ hx)) g'.2
    have ei : inw N S (s :: Ss) = (if enters S (N.links.getD s.1 (0, 0)) then 1 else 0) + inw N S Ss := by
      unfold inw
      rw [List.filter_cons]
      split
      · rw [List.length_cons]; omega
      · omega
    rw [ei]
    show rk (tog N.rows.length S (runS N (send N h s) Ss)) ≤ _
    omega
theorem rows16 {N : Net} (ok : NetOK N) : ∀ r ∈ N.rows, ∀ m ∈ r, m < 16 := fun r hr m hm => pow16 ok.v (ok.rm r hr m hm).2
theorem cut_law {N : Net} (ok : NetOK N) {S : Nat} {Ss : List Step} (so : stOK N Ss) (g : good N N.rows [] Ss = true) : rk (tog N.rows.length S (runS N N.rows Ss)) ≤ rk (msgs N S) + inw N S Ss :=
  cut_run ok rfl (rows16 ok) so g
/-! ### transmissions as steps -/
def coded (N : Net) (SS : List Tr) : List Step := SS.map fun t => (t.1, msgAt N t.2)
def ofA (N : Net) (A : List (List Org)) : List (List Nat) := A.map fun r => r.map (msgAt N)
theorem ofA_getD {N : Net} {A : List (List Org)} {i : Nat} : (ofA N A).getD i [] = (A.getD i []).map (msgAt N) := by
  unfold ofA
  rw [List.getD_eq_getElem?_getD, List.getElem?_map, List.getD_eq_getElem?_getD]
  cases A[i]? <;> rfl
theorem ofA_send {N : Net} {A : List (List Org)} {t : Tr} : send N (ofA N A) (t.1, msgAt N t.2) = ofA N (sendT N A t) := by
  show (ofA N A).set _ ((ofA N A).getD _ [] ++ [msgAt N t.2]) = ofA N (A.set _ _)
  rw [ofA_getD]
  unfold ofA
  rw [List.map_set, List.map_append]
  rfl
theorem goodT_good {N : Net} : ∀ {SS : List Tr} {A : List (List Org)} {us : List Nat}, goodT N A us SS → good N (ofA N A) us (coded N SS) = true ∧ (∀ b ∈ news N (ofA N A) (coded N SS), b = true) ∧ runS N (ofA N A) (coded N SS) = ofA N (runT N A SS)
  | [], A, us, _ => ⟨rfl, (fun b hb => nomatch hb), rfl⟩
  | t :: SS, A, us, g => by
    obtain ⟨⟨t1, t2, t3, t4, t5⟩, g2⟩ := g
    obtain ⟨i1, i2, i3⟩ := goodT_good g2
    refine ⟨?_, ?_, ?_⟩
    · show (okAt N (ofA N A) us (t.1, msgAt N t.2) && good N (send N (ofA N A) (t.1, msgAt N t.2)) (us ++ [t.1]) (coded N SS)) = true
      rw [ofA_send, i1, Bool.and_true]
      unfold okAt sdr
      rw [ofA_getD, decide_eq_false t2, mem_self (List.mem_map.mpr ⟨_, t4, rfl⟩)]
      rfl
    · show ∀ b ∈ (!mem ((ofA N A).getD (rcv N (t.1, msgAt N t.2)) []) (msgAt N t.2)) :: news N (send N (ofA N A) (t.1, msgAt N t.2)) (coded N SS), b = true
      intro b hb
      rcases List.mem_cons.mp hb with e | e
      · rw [e, ofA_getD]
        show (!mem ((A.getD (N.links.getD t.1 (0, 0)).2 []).map (msgAt N)) (msgAt N t.2)) = true
        rw [t5]; rfl
      · rw [ofA_send] at e
        exact i2 b e
    · show runS N (send N (ofA N A) (t.1, msgAt N t.2)) (coded N SS) = ofA N (runT N (sendT N A t) SS)
      rw [ofA_send, i3]
theorem goodT_ok {N : Net} (ok : NetOK N) : ∀ {SS : List Tr} {A : List (List Org)} {us : List Nat}, goodT N A us SS → stOK N (coded N SS)
  | [], _, _, _ => fun s hs => nomatch hs
  | t :: SS, A, us, g => fun s hs => by
    rcases List.mem_cons.mp hs with e | e
    · rw [e]; exact ⟨g.1.1, (msgAt_lt ok g.1.2.2.1).2⟩
    · exact goodT_ok ok g.2 s e
theorem ofA_beg (N : Net) : ofA N (beg N N.rows.length) = N.rows := by
  unfold ofA beg
  rw [List.map_map]
  refine List.ext_getElem (by simp) fun i h1 h2 => ?_
  simp at h1
  simp only [List.getElem_map, List.getElem_range, Function.comp, List.map_map]
  rw [getD_eq h1]
  refine List.ext_getElem (by simp) fun j h3 h4 => ?_
  simp only [List.getElem_map, List.getElem_range, Function.comp, msgAt]
  rw [getD_eq h1, getD_eq h4]
theorem bits63 : ∀ i < 6, Nat.testBit 63 i = true := by decide +kernel
theorem msgs63 {N : Net} (ok : NetOK N) : msgs N 63 = N.rows.flatten := by
  have hr4 := ok.r4
  have : ∀ k ≤ N.rows.length, msgsTo N 63 k = (N.rows.take k).flatten := fun k => by
    induction k with
    | zero => intro _; rfl
    | succ k ih =>
      intro hk
      rw [msgsTo_succ, ih (by omega), bits63 k (by omega), if_pos rfl, flat_take (by omega)]
  unfold msgs
  rw [this _ (Nat.le_refl _), List.take_length]
/-- all letters are told exactly if all are told -/
theorem all_told : ∀ n < 5, Txt.join (Str.ofString "") ((List.range n).map nl) = nset (2 ^ n - 1) := by decide +kernel
theorem join_len (l : List Nat) : (Txt.join (Str.ofString "") (l.map nl)).length = l.length := by
  rw [TL.join_eq]
  cases l with
  | nil => rfl
  | cons a r =>
    rw [List.map_cons]
    induction r generalizing a with
    | nil => rfl
    | cons b r ih =>
      rw [List.map_cons]
      have e : Str.join (Str.ofString "") (nl a :: nl b :: r.map nl) = nl a ++ Str.ofString "" ++ Str.join (Str.ofString "") (nl b :: r.map nl) := rfl
      rw [e]
      have l2 : ∀ x y : Str, (x ++ y).length = x.length + y.length := fun x y => Array.size_append
      rw [l2, l2, ih b]
      show 1 + 0 + _ = _
      rw [List.length_cons, List.length_cons, List.length_cons]
      omega
theorem told_all {n : Nat} (hn : n < 5) (p : Nat → Bool) : decide (Txt.join (Str.ofString "") (((List.range n).filter p).map nl) = nset (2 ^ n - 1)) = (List.range n).all p := by
  by_cases c : (List.range n).all p = true
  · rw [c]
    refine decide_eq_true ?_
    have e : (List.range n).filter p = List.range n := List.filter_eq_self.mpr fun a ha => List.all_eq_true.mp c a ha
    rw [e]
    exact all_told n hn
  · rw [Bool.eq_false_iff.mpr c]
    refine decide_eq_false fun e => c ?_
    have h1 := congrArg Str.length e
    rw [join_len] at h1
    have h2 : (nset (2 ^ n - 1)).length = n := ns_size n hn
    rw [h2] at h1
    rw [List.all_eq_true]
    have h3 : ((List.range n).filter p).length = (List.range n).length := by rw [h1, List.length_range]
    exact List.length_filter_eq_length_iff.mp h3
end Kn
set_option Elab.async false
set_option linter.all false
set_option maxRecDepth 100000
set_option maxHeartbeats 4000000
namespace Kn
open PySem PySem.Spec PyProof.Rows L2
local macro_rules | `(tactic| walk_at "hp") => `(tactic| first | assumption | exact upd_same | (rw [upd_ne (by assumption)]; walk_at "hp"))
local macro_rules | `(tactic| walk_at "r1") => `(tactic| first
  | with_reducible refine r_seq ?_
  | with_reducible refine r_asg ?_
  | (with_reducible refine r_name ?_; try dsimp only [List.set_cons_succ, List.set_cons_zero])
  | ((with_reducible refine' r_var (v := ?v1) ?h1 ?q1); (case h1 => exact rfl))
  | with_reducible refine r_c ?_
  | with_reducible refine r_op ?_
  | with_reducible refine r_un ?_
  | with_reducible refine r_I0 ?_
  | with_reducible refine r_U ?_
  | with_reducible refine r_ret ?_
  | with_reducible refine r_retN ?_
  | with_reducible refine r_drop ?_
  | with_reducible refine r_next ?_
  | with_reducible refine r_brk ?_
  | with_reducible refine r_cons ?_
  | with_reducible refine r_nil ?_
  | with_reducible refine r_cb ?_
  | with_reducible refine r_ckw ?_
  | with_reducible refine r_test ?_
  | with_reducible refine r_B ?_
  | with_reducible refine r_blN ?_
  | with_reducible refine r_bl ?_
  | with_reducible refine r_ifS ?_
  | with_reducible refine r_if ?_
  | with_reducible refine r_not ?_
  | with_reducible refine r_and ?_
  | with_reducible refine r_or ?_
  | with_reducible refine r_andV ?_
  | with_reducible refine r_andB ?_
  | with_reducible refine r_notV ?_
  | with_reducible refine r_notB ?_
  | with_reducible refine r_call ?_
  | with_reducible refine r_make ?_
  | with_reducible refine r_meth ?_
  | with_reducible refine r_fld ?_
  | with_reducible refine r_tup ?_
  | with_reducible refine r_lst ?_
  | with_reducible refine r_sub ?_
  | with_reducible refine r_sl ?_
  | with_reducible refine r_nop ?_
  | with_reducible refine r_part ?_
  | with_reducible refine r_pti ?_
  | with_reducible refine r_bm ?_
  | with_reducible refine r_m1 ?_
  | with_reducible refine r_m1s ?_
  | with_reducible refine r_dget ?_
  | with_reducible refine r_eq ?_
  | with_reducible refine r_ne ?_
  | with_reducible refine r_eqS ?_
  | with_reducible refine r_neS ?_
  | with_reducible refine r_for ?_
  | with_reducible refine r_lc ?_
  | with_reducible refine r_yes ?_
  | with_reducible refine r_iStr ?_
  | with_reducible refine r_iList ?_
  | with_reducible refine r_iTup ?_
  | with_reducible refine r_iSq ?_
  | with_reducible refine r_iRng ?_
  | with_reducible refine r_iEnumQ ?_
  | with_reducible refine r_iEnumS ?_
  | with_reducible refine r_iEnum ?_
  | with_reducible refine r_iZip ?_
  | with_reducible refine r_tr ?_
  | with_reducible refine r_iSqK ?_
  | with_reducible refine r_fldS ?_
  | with_reducible refine r_dput ?_
  | with_reducible refine r_din ?_
  | with_reducible refine r_gcons ?_
  | with_reducible refine r_gnil ?_
  | with_reducible refine r_gtup upd_same rfl ?_
  | with_reducible refine r_chain ?_
  | with_reducible refine iteT ?_
  | with_reducible refine iteF ?_)
local macro_rules | `(tactic| walk_at "wp") => `(tactic| dsimp only [wipe, List.map_cons, List.map_nil, List.set_cons_succ, List.set_cons_zero])
local macro_rules | `(tactic| walk_at "rd") => `(tactic| repeat (walk_at "r1"))
local macro_rules | `(tactic| walk_at "rd0") => `(tactic| (simp only [L2.start, List.map_cons, List.map_nil, List.length_cons, List.length_nil, Nat.reduceAdd, Nat.reduceSub, List.replicate_succ, List.replicate_zero, List.nil_append, List.cons_append]; repeat (walk_at "r1")))
local macro_rules | `(tactic| walk_at "wp") => `(tactic| dsimp only [wipe, List.map_cons, List.map_nil, List.set_cons_succ, List.set_cons_zero])
/-! ### _law_is_bounded -/
def spBound (K : PySem.W.Frag) : Sp := fun vs H Q _ => ∃ (x d a : Addr) (N : Net) (Ss : List Step), vs = [.ref x, .ref d, .ref a] ∧ NwAt K H x N ∧ NetAt H d N ∧ NetOK N ∧ StepsAt H a false Ss ∧ stOK N Ss ∧ Ss.length ≤ 10 ∧ good N N.rows [] Ss = true ∧
  ∀ H', Same H H' → Q (.bl true) H'
theorem ns_get {S i c : Nat} (h : (nset S).cps[i]? = some c) : ∃ j, S.testBit j = true ∧ c = 65 + j := by
  have h2 : (nset S).cps.toList[i]? = some c := by rw [Array.getElem?_toList]; exact h
  obtain ⟨j, _, hb, e⟩ := ns_mem (List.mem_of_getElem? h2)
  exact ⟨j, hb, e⟩
theorem filt_len {S : List Step} {q : Step → Bool} : ((List.range S.length).filter fun i => q (S.getD i (0, 0))).length = (S.filter q).length := by
  have e : S = (List.range S.length).map fun i => S.getD i (0, 0) := by
    refine List.ext_getElem (by simp) fun i h1 h2 => ?_
    rw [List.getElem_map, List.getElem_range, getD_eq h1]
  conv => rhs; rw [e, List.filter_map, List.length_map]
  rfl
section
variable {P : Program} {w : World} {K : PySem.W.Frag} {mg : Str → Option Value} {base : Heap}
theorem c_bnd (W : TW K mg) : Cal P w K mg base 10 "_law_is_bounded" P__law_is_bounded (spBound K) := by
  have c__law_sets := c_sets (P := P) (w := w) (base := base) W
  have c__law_entering := c_ent (P := P) (w := w) (base := base) W
  have c__law_rank := c_rk (P := P) (w := w) (base := base) W
  have c__law_messages_of := c_msgs (P := P) (w := w) (base := base) W
  have c_known := c_known (P := P) (w := w) (base := base) W
  obtain ⟨fd, F⟩ := W.f__law_is_bounded
  refine ⟨_, fd, W.g__law_is_bounded, F.kp, F.bindsN (fun _ _ _ _ _ _ us hl => match us, hl with | [_, _, _], _ => rfl), okN F sc__law_is_bounded (fun vs H Q E h => ?_) (fun cdv A outer s H vs Q E hr h => ?_)⟩
  · obtain ⟨x, d, a, N, Ss, rfl, _⟩ := h
    rfl
  · have hu := hu_of hr
    obtain ⟨x, d, a, N, Ss, rfl, hN, ⟨ra, la, rs, hD⟩, ok, ⟨ts, hS⟩, so, hlen, g, k⟩ := h
    have hn := ok.r4
    have htl := hS.len
    have es : sizeLine = 16777216 := sizeLine_eq
    have hb16 : ∀ r ∈ runS N N.rows Ss, ∀ m ∈ r, m < 16 := fun r hr m hm => pow16 ok.v (runS_lt so (rows_lt2 ok) r hr m hm)
    have hrl := runS_len (N := N) (S := Ss) (h := N.rows)
    refine ⟨_, (pss_cons (ps_for PassesOwn.never rfl (pi_listK K (pe_cal c__law_sets (hr.mono (by decide)) (pa_cons (pe_callB (lenK K) rfl W.z_len PySem.boot_len (pa_cons (pe_dget hu (pv 1) pe_str (fun _ _ => rfl)) pa_nil)) pa_nil))) (pg_name (i := 3) sc__law_is_bounded.nd rfl (Or.inr rfl))
   (pss_cons (ps_set (i := 4) sc__law_is_bounded.nd rfl (Or.inl rfl) (pe_lst pa_nil))
  (pss_cons (ps_for PassesOwn.never rfl (pi_str (pv 3)) (pg_name (i := 5) sc__law_is_bounded.nd rfl (Or.inl rfl))
   (pss_one (ps_expr (pe_bmK K PySem.F.plainAttrs_list PySem.F.slot_list_extend PySem.F.type_list_extend (extendTK K) (pv 4) (pa_cons (pe_cal c_known (hr.mono (by decide)) (pa_cons (pv 0) (pa_cons (pv 2) (pa_cons (pv 5) pa_nil)))) pa_nil)))))
  (pss_cons (ps_setLc (i := 6) (own := [("_law_step", 7)]) (by rfl) sc__law_is_bounded.nd rfl rfl (sw_true rfl rfl rfl (by decide +kernel)) (pi_listK K (pv 2)) (blkOk_by (own := [("_law_step", 7)]) (by first | decide +kernel | kernel_rfl)) (fun _ _ _ _ _ => (pg_name (i := 7) sc__law_is_bounded.nd rfl (Or.inl rfl))) (fun _ _ _ _ _ => (pts_one (pt_cmpR (inQ K) (pe_ix (ixT K) (pv 7) pe_int (fun _ _ => rfl)) (pe_cal c__law_entering (hr.mono (by decide)) (pa_cons (pv 1) (pa_cons (pv 3) pa_nil))) rfl))) (fun _ _ _ _ _ => (pv 7)))
  (pss_one (ps_if (pt_cmpR op_gt (pe_cal c__law_rank (hr.mono (by decide)) (pa_cons (pv 4) pa_nil)) (pe_op op_add (pe_cal c__law_rank (hr.mono (by decide)) (pa_cons (pe_cal c__law_messages_of (hr.mono (by decide)) (pa_cons (pv 1) (pa_cons (pv 3) pa_nil))) pa_nil)) (pe_callB (lenK K) rfl W.z_len PySem.boot_len (pa_cons (pv 6) pa_nil))) (nomark _))
   (pss_one (ps_ret pe_bl))
   pss_nil))))))
  (pss_one (ps_ret pe_bl))), ?_⟩
    walk_at "rd0"
    refine ⟨d, _, rfl, hD.gn, ?_⟩
    walk_at "rd"
    refine ⟨_, _, rfl, .inl ⟨_, SqL.of hD.nodes, by rw [List.length_map]⟩, ?_⟩
    rw [hD.len]
    walk_at "rd"
    refine ⟨N.rows.length, rfl, by omega, fun sl L H1 s1 _ e1 hp => ?_⟩
    have hLm : ∀ S ∈ L, S < 2 ^ N.rows.length := fun S hS => List.mem_range.mp (List.mem_filter.mp (hp.mem_iff.mp hS)).1
    refine ⟨sl, rfl, ⟨_, SqL.of e1⟩, for_w walk_list (fun i σ H' => Same H1 H' ∧ ∃ v1 v2 v3 v4, σ = [some (.ref x), some (.ref d), some (.ref a), v1, v2, v3, v4, none]) (by exact ⟨Same.refl _, none, none, none, none, rfl⟩) (fun i σ H' _ q => SqL.of (q.1 _ _ e1)) ?_ ?_⟩
    · rintro i y σ H0 H2 hi ⟨s2, v1, v2, v3, v4, rfl⟩ ⟨rfl, hy⟩
      rw [List.length_map] at hi
      rw [List.getElem?_map, List.getElem?_eq_getElem hi] at hy
      cases hy
      have hSlt := hLm _ (List.getElem_mem hi)
      generalize L[i] = S at hSlt
      have h64 := lt64 (by omega) hSlt
      have s02 := s1.trans s2
      walk_at "rd"
      refine ⟨Nat.zero_le _, fun t ht => ?_⟩
      have s3 : Same H2 (upd H2 t (.lst [])) := same_new ht
      have et : upd H2 t (.lst []) t = some (.lst []) := upd_same
      have ht0 := s02.free ht
      generalize upd H2 t (.lst []) = H3 at s3 et ⊢
      walk_at "rd"
      refine ⟨_, rfl, for_w walk_str (fun j σ H' => Same H2 H' ∧ (∃ ms : List Nat, H' t = some (.lst (ms.map tv)) ∧ ms.length ≤ 14 * j ∧ (∀ m ∈ ms, m < 16) ∧ ∀ m ∈ ms, mem (tog N.rows.length S (runS N N.rows Ss)) m = true) ∧ ∃ v5, σ = [some (.ref x), some (.ref d), some (.ref a), some (sv S), some (.ref t), v5, v4, none]) ?_ (fun _ _ _ _ _ => trivial) ?_ ?_⟩
      · exact ⟨s3, ⟨[], et, Nat.zero_le _, (fun _ h => nomatch h), (fun _ h => nomatch h)⟩, _, rfl⟩
      · rintro j y σ H0 H4 hj ⟨s4, ⟨ms, ems, hml, hm16, hmt⟩, v5, rfl⟩ ⟨rfl, c, hc, rfl⟩
        obtain ⟨q, hbq, rfl⟩ := ns_get hc
        have hqn := bit_of hSlt hbq
        have hj6 : j < 6 := by
          have := ns_len S h64
          have h5 : j < (nset S).length := (Array.getElem?_eq_some_iff.mp hc).1
          omega
        walk_at "rd"
        refine ⟨.inl ⟨rfl, _, SqL.of ems⟩, ?_⟩
        walk_at "rd"
        have s04 := s02.trans s4
        refine ⟨x, a, false, N, Ss, q, rfl, hN.same s04, ok, ⟨ts, hS.same s04⟩, so, by omega, g, hqn, fun T kn H5 s5 eT hkl hk16 hkm => ?_⟩
        walk_at "rd"
        refine ⟨t, T, _, _, rfl, rfl, s5 _ _ ems, SqT.of eT, by rw [List.length_map, List.length_map]; omega, ?_⟩
        walk_at "rd"
        refine ⟨Same.mut (s4.trans s5) ht, ⟨ms ++ kn, by rw [upd_same, List.map_append], by rw [List.length_append]; omega, fun m hm => ?_, fun m hm => ?_⟩, _, rfl⟩
        · rcases List.mem_append.mp hm with e | e
          · exact hm16 m e
          · exact hk16 m e
        · rcases List.mem_append.mp hm with e | e
          · exact hmt m e
          · have e1 : mem ((runS N N.rows Ss).getD q []) m = true := by rw [← hkm]; exact mem_self e
            exact sub_mem (fun z hz => mem_tog.mpr ⟨q, hqn, hbq, hz⟩) _ e1
      · rintro σ H4 ⟨s4, ⟨ms, ems, hml, hm16, hmt⟩, v5, rfl⟩
        have s04 := s02.trans s4
        walk_at "rd"
        refine ⟨a, rfl, ⟨_, SqL.of (s04 _ _ hS.1)⟩, fun D hD2 => lc_pure walk_list ySame_at (by rw [List.length_map]; omega) hD2 (fun i => enters S (N.links.getD (Ss.getD i (0, 0)).1 (0, 0))) (fun i => .ref (ts.getD i (0, 0, 0)).1) (fun H5 s5 => SqL.of (s5 _ _ (s04 _ _ hS.1))) ?_ fun H5 s5 e5 => ?_⟩
        · rintro j z Hc H' R E hj s ⟨rfl, hz⟩ hR hE
          rw [List.length_map] at hj
          rw [List.getElem?_map, List.getElem?_eq_getElem hj] at hz
          cases hz
          have hsj : j < Ss.length := by omega
          have hcell := s _ _ (s04 _ _ (hS.2.2 _ (List.getElem_mem hj)))
          have eS : ts[j].2 = Ss.getD j (0, 0) := by
            rw [← hS.2.1, List.getD_eq_getElem?_getD, List.getElem?_map, List.getElem?_eq_getElem hj]; rfl
          have hll := (so _ (List.getElem_mem hsj)).1
          rw [← getD_eq (d := (0, 0)) hsj, ← eS] at hll
          rw [getD_eq hj, ← eS] at hR
          rw [← eS] at hE
          walk_at "wp"
          walk_at "rd"
          refine ⟨rfl, ?_⟩
          walk_at "rd"
          refine r_ixT hcell 0 rfl rfl ?_
          walk_at "rd"
          refine ⟨d, N, S, rfl, ⟨ra, la, rs, hD.same (s04.trans s)⟩, ok, h64, fun b H6 s6 hb e6 => ?_⟩
          refine ⟨b, _, rfl, .inl (SqL.of e6), rfl, iN_flat _, ?_⟩
          rw [if_neg Bool.false_ne_true, inV_iN]
          have ee : decide (ts[j].2.1 ∈ ent N S) = enters S (N.links.getD ts[j].2.1 (0, 0)) := by
            unfold ent
            by_cases c : enters S (N.links.getD ts[j].2.1 (0, 0)) = true
            · rw [c]; exact decide_eq_true (List.mem_filter.mpr ⟨List.mem_range.mpr hll, c⟩)
            · rw [Bool.eq_false_iff.mpr c]; exact decide_eq_false fun z => c (List.mem_filter.mp z).2
          rw [ee]
          cases c : enters S (N.links.getD ts[j].2.1 (0, 0)) with
          | true =>
            walk_at "rd"
            exact hR c _ s6
          | false =>
            walk_at "rd"
            exact hE c _ s6
        · walk_at "rd"
          refine ⟨t, ms, rfl, s5 _ _ ems, hm16, fun H6 s6 => ?_⟩
          walk_at "rd"
          refine ⟨d, N, S, rfl, ⟨ra, la, rs, hD.same ((s04.trans s5).trans s6)⟩, ok, h64, fun b H7 s7 hb e7 => ?_⟩
          walk_at "rd"
          refine ⟨b, _, rfl, e7, ok.msgs16, fun H8 s8 => ?_⟩
          walk_at "rd"
          refine ⟨_, _, rfl, .inl ⟨_, SqL.of (s8 _ _ (s7 _ _ (s6 _ _ e5))), rfl⟩, ?_⟩
          walk_at "rd"
          have h1 := cut_law ok (S := S) so g
          have h2 : rk ms ≤ rk (tog N.rows.length S (runS N N.rows Ss)) := rk_mono hm16 (fun m hm => by
            obtain ⟨i, hi, _, e⟩ := mem_tog.mp hm
            exact hb16 _ (by rw [getD_eq (by omega)]; exact List.getElem_mem _) m e) (sub_of hmt)
          have h3 : (((List.range (ts.map fun t => V.ref t.1).length).filter fun i => enters S (N.links.getD (Ss.getD i (0, 0)).1 (0, 0))).map fun i => V.ref (ts.getD i (0, 0, 0)).1).length = inw N S Ss := by
            rw [List.length_map, List.length_map, htl]
            exact filt_len (q := fun s => enters S (N.links.getD s.1 (0, 0)))
          rw [h3]
          refine iteD (fun c => absurd c (by omega)) (fun _ => ?_)
          walk_at "rd"
          exact ⟨s2.trans (s4.trans (s5.trans (s6.trans (s7.trans s8)))), _, _, _, _, rfl⟩
    · rintro σ H2 ⟨s2, v1, v2, v3, v4, rfl⟩
      walk_at "rd"
      exact k _ (s1.trans s2)
end
end Kn
set_option Elab.async false
set_option linter.all false
set_option maxRecDepth 100000
set_option maxHeartbeats 4000000
namespace Kn
open PySem PySem.Spec PyProof.Rows L2
local macro_rules | `(tactic| walk_at "hp") => `(tactic| first | assumption | exact upd_same | (rw [upd_ne (by assumption)]; walk_at "hp"))
local macro_rules | `(tactic| walk_at "r1") => `(tactic| first
  | with_reducible refine r_seq ?_
  | with_reducible refine r_asg ?_
  | (with_reducible refine r_name ?_; try dsimp only [List.set_cons_succ, List.set_cons_zero])
  | ((with_reducible refine' r_var (v := ?v1) ?h1 ?q1); (case h1 => exact rfl))
  | with_reducible refine r_c ?_
  | with_reducible refine r_op ?_
  | with_reducible refine r_un ?_
  | with_reducible refine r_I0 ?_
  | with_reducible refine r_U ?_
  | with_reducible refine r_ret ?_
  | with_reducible refine r_retN ?_
  | with_reducible refine r_drop ?_
  | with_reducible refine r_next ?_
  | with_reducible refine r_brk ?_
  | with_reducible refine r_cons ?_
  | with_reducible refine r_nil ?_
  | with_reducible refine r_cb ?_
  | with_reducible refine r_ckw ?_
  | with_reducible refine r_test ?_
  | with_reducible refine r_B ?_
  | with_reducible refine r_blN ?_
  | with_reducible refine r_bl ?_
  | with_reducible refine r_ifS ?_
  | with_reducible refine r_if ?_
  | with_reducible refine r_not ?_
  | with_reducible refine r_and ?_
  | with_reducible refine r_or ?_
  | with_reducible refine r_andV ?_
  | with_reducible refine r_andB ?_
  | with_reducible refine r_notV ?_
  | with_reducible refine r_notB ?_
  | with_reducible refine r_call ?_
  | with_reducible refine r_make ?_
  | with_reducible refine r_meth ?_
  | with_reducible refine r_fld ?_
  | with_reducible refine r_tup ?_
  | with_reducible refine r_lst ?_
  | with_reducible refine r_sub ?_
  | with_reducible refine r_sl ?_
  | with_reducible refine r_nop ?_
  | with_reducible refine r_part ?_
  | with_reducible refine r_pti ?_
  | with_reducible refine r_bm ?_
  | with_reducible refine r_m1 ?_
  | with_reducible refine r_m1s ?_
  | with_reducible refine r_dget ?_
  | with_reducible refine r_eq ?_
  | with_reducible refine r_ne ?_
  | with_reducible refine r_eqS ?_
  | with_reducible refine r_neS ?_
  | with_reducible refine r_for ?_
  | with_reducible refine r_lc ?_
  | with_reducible refine r_yes ?_
  | with_reducible refine r_iStr ?_
  | with_reducible refine r_iList ?_
  | with_reducible refine r_iTup ?_
  | with_reducible refine r_iSq ?_
  | with_reducible refine r_iRng ?_
  | with_reducible refine r_iEnumQ ?_
  | with_reducible refine r_iEnumS ?_
  | with_reducible refine r_iEnum ?_
  | with_reducible refine r_iZip ?_
  | with_reducible refine r_tr ?_
  | with_reducible refine r_iSqK ?_
  | with_reducible refine r_fldS ?_
  | with_reducible refine r_dput ?_
  | with_reducible refine r_din ?_
  | with_reducible refine r_gcons ?_
  | with_reducible refine r_gnil ?_
  | with_reducible refine r_gtup upd_same rfl ?_
  | with_reducible refine r_chain ?_
  | with_reducible refine iteT ?_
  | with_reducible refine iteF ?_)
local macro_rules | `(tactic| walk_at "wp") => `(tactic| dsimp only [wipe, List.map_cons, List.map_nil, List.set_cons_succ, List.set_cons_zero])
local macro_rules | `(tactic| walk_at "rd") => `(tactic| repeat (walk_at "r1"))
local macro_rules | `(tactic| walk_at "rd0") => `(tactic| (simp only [L2.start, List.map_cons, List.map_nil, List.length_cons, List.length_nil, Nat.reduceAdd, Nat.reduceSub, List.replicate_succ, List.replicate_zero, List.nil_append, List.cons_append]; repeat (walk_at "r1")))
local macro_rules | `(tactic| walk_at "wp") => `(tactic| dsimp only [wipe, List.map_cons, List.map_nil, List.set_cons_succ, List.set_cons_zero])
/-! ### the law -/
def spLaw (K : PySem.W.Frag) : Sp := fun vs H Q _ => ∃ (a : Addr) (zs : List Int), vs = [.ref a] ∧ SqL K H a (zs.map V.int) ∧ zs.length < 16777216 ∧ ∀ H', Q (.bl true) H'
theorem gd_s {H : Hp} {d st rw : Addr} (e : H d = some (.dK [(.inr (Str.ofString "steps"), .ref st), (.inr (Str.ofString "rows"), .ref rw)])) : DGet H d (.str (Str.ofString "steps")) (some (.ref st)) := by
  have := DGet.k (k := .inr (Str.ofString "steps")) e
  rwa [valV_pos rfl] at this
theorem gd_r {H : Hp} {d st rw : Addr} (e : H d = some (.dK [(.inr (Str.ofString "steps"), .ref st), (.inr (Str.ofString "rows"), .ref rw)])) : DGet H d (.str (Str.ofString "rows")) (some (.ref rw)) := by
  have := DGet.k (k := .inr (Str.ofString "rows")) e
  rwa [valV_neg sr_ne, valV_pos rfl] at this
theorem RunX.kept {Z : List Addr} {H H' : Hp} {st rw : Addr} {N : Net} {S : List Step} {ts : List (Addr × Step)} {hh : List Rw} (x : RunX Z H st rw N S ts hh) (k : Kept H H') : RunX Z H' st rw N S ts hh :=
  ⟨k.get x.top (isPool_refs _ _), x.eq, fun t ht => k.get (x.cell t ht), k.get x.rtop (isPool_refs _ _), x.req, fun y hy => (x.row y hy).kept k, x.good, x.ok⟩
theorem RunX.steps {Z : List Addr} {H : Hp} {st rw : Addr} {N : Net} {S : List Step} {ts : List (Addr × Step)} {hh : List Rw} (x : RunX Z H st rw N S ts hh) : StepsX H st false S ts := ⟨x.top, x.eq, x.cell⟩
theorem rk_ints (h : List (List Nat)) : (h.map fun r => iv (rk r)) = ((h.map fun r => ((rk r : Nat) : Int)).map V.int) := by rw [List.map_map]; rfl
theorem r_eqB {a b : Bool} {H : Hp} {Q : VK} (e : a = b) (q : Q (.bl true) H) : rEq (.bl a) (.bl b) H Q := ⟨rfl, by
  subst e
  rw [decide_eq_true rfl]
  exact q⟩
theorem swap_list {α : Type} {l : List α} {k : Nat} {d : α} (hk : k + 1 < l.length) : l.take k ++ [l.getD (k + 1) d, l.getD k d] ++ l.drop (k + 2) = (l.set k (l.getD (k + 1) d)).set (k + 1) (l.getD k d) := by
  generalize hx : l.getD k d = x
  generalize hy : l.getD (k + 1) d = y
  rw [List.set_eq_take_append_cons_drop (l := l.set k y), if_pos (by rw [List.length_set]; exact hk), List.take_set, List.drop_set_of_lt (by omega), List.take_add_one, List.getElem?_eq_getElem (show k < l.length by omega)]
  rw [List.set_append_right _ _ (by rw [List.length_take]; omega), List.length_take, Nat.min_eq_left (by omega), Nat.sub_self]
  rw [List.append_assoc, List.append_assoc]
  rfl
theorem goodT_org {N : Net} : ∀ {SS : List Tr} {A : List (List Org)} {us : List Nat}, goodT N A us SS → ∀ t ∈ SS, orgOK N t.2
  | [], _, _, _, _, h => nomatch h
  | t :: SS, A, us, g, x, hx => by
    rcases List.mem_cons.mp hx with e | e
    · rw [e]; exact g.1.2.2.1
    · exact goodT_org g.2 x e
section
variable {P : Program} {w : World} {K : PySem.W.Frag} {mg : Str → Option Value} {base : Heap}
theorem ok_law (W : TW K mg) {fd : FuncData} (F : FunD K d_law.name d_law.qual d_law.params d_law.body d_law.scope [] [] (He.fAd K d_law.at_) fd) : FnOk P w K mg base CX0 11 (He.fAd K d_law.at_) fd P_law (spLaw K) := by
  have c__law_pool := c_pool (P := P) (w := w) (base := base) W
  have c__law_network := c_network (P := P) (w := w) (base := base) W
  have c__law_handed := c_handed (P := P) (w := w) (base := base) W
  have c_Network := c_nw (P := P) (w := w) (base := base) W
  have c__law_take := c_take (P := P) (w := w) (base := base) W
  have c__law_run := c_run (P := P) (w := w) (base := base) W
  have c__law_derived := c_der (P := P) (w := w) (base := base) W
  have c__law_same := c_same (P := P) (w := w) (base := base) W
  have c_can_swap := c_swap (P := P) (w := w) (base := base) W
  have c__law_shaped := c_shaped (P := P) (w := w) (base := base) W
  have c_ranks := c_ranks (P := P) (w := w) (base := base) W
  have c__law_is_bounded := c_bnd (P := P) (w := w) (base := base) W
  have c__law_some_sent := c_somes (P := P) (w := w) (base := base) W
  have c_fault := c_fault (P := P) (w := w) (base := base) W
  have c_idle_steps := c_idle (P := P) (w := w) (base := base) W
  have c_informed := c_inf (P := P) (w := w) (base := base) W
  have c__law_is_complete := c_compl (P := P) (w := w) (base := base) W
  refine okN F sc_law (fun vs H Q E h => ?_) (fun cdv A outer s H vs Q E hr h => ?_)
  · obtain ⟨a, zs, rfl, _⟩ := h
    rfl
  · have hu := hu_of hr
    obtain ⟨a, zs, rfl, ha, hl, k⟩ := h
    have es : sizeLine = 16777216 := sizeLine_eq
    refine ⟨_, (pss_cons (ps_set (i := 1) sc_law.nd rfl (Or.inl rfl) (pe_cal c__law_pool (hr.mono (by decide)) (pa_cons (pv 0) pa_nil)))
  (pss_cons (ps_set (i := 2) sc_law.nd rfl (Or.inr rfl) (pe_cal c__law_network (hr.mono (by decide)) (pa_cons (pv 1) (pa_cons pe_int (pa_cons pe_int pa_nil)))))
  (pss_cons (ps_set (i := 3) sc_law.nd rfl (Or.inl rfl) (pe_cal c__law_handed (hr.mono (by decide)) (pa_cons (pv 1) (pa_cons (pv 2) pa_nil))))
  (pss_cons (ps_set (i := 4) sc_law.nd rfl (Or.inl rfl) (pe_mk c_Network (hr.mono (by decide)) (pa_cons (pe_ix (ixT K) (pv 3) pe_int (fun _ _ => rfl)) (pa_cons (pe_ix (ixT K) (pv 3) pe_int (fun _ _ => rfl)) (pa_cons (pe_ix (ixT K) (pv 3) pe_int (fun _ _ => rfl)) pa_nil)))))
  (pss_cons (ps_set (i := 5) sc_law.nd rfl (Or.inl rfl) (pe_cal c__law_run (hr.mono (by decide)) (pa_cons (pv 1) (pa_cons (pv 2) (pa_cons (pe_cal c__law_take (hr.mono (by decide)) (pa_cons (pv 1) (pa_cons pe_int pa_nil))) pa_nil)))))
  (pss_cons (ps_set (i := 6) sc_law.nd rfl (Or.inl rfl) (pe_dget hu (pv 5) pe_str (fun _ _ => rfl)))
  (pss_cons (ps_for PassesOwn.never rfl (pi_range1 rfl W.z_range (pa_cons (pe_op op_sub (pe_callB (lenK K) rfl W.z_len PySem.boot_len (pa_cons (pv 6) pa_nil)) pe_int) pa_nil)) (pg_name (i := 7) sc_law.nd rfl (Or.inl rfl))
   (pss_cons (ps_set (i := 8) sc_law.nd rfl (Or.inl rfl) (pe_ix (ixL K) (pv 6) (pe_op op_add (pv 7) pe_int) (fun _ _ => rfl)))
  (pss_cons (ps_set (i := 9) sc_law.nd rfl (Or.inl rfl) (pe_m1 PySem.F.slot_str_index PySem.F.type_str_index mt_sindex pe_str (pe_ix ix_str (pe_ix (ixL K) (pe_dget hu (pv 2) pe_str (fun _ _ => rfl)) (pe_ix (ixT K) (pv 8) pe_int (fun _ _ => rfl)) (fun _ _ => rfl)) pe_int (fun _ _ => rfl))))
  (pss_cons (ps_set (i := 10) sc_law.nd rfl (Or.inl rfl) (pe_cmpR (inQ K) (pe_ix (ixT K) (pv 8) pe_int (fun _ _ => rfl)) (pe_cal c__law_derived (hr.mono (by decide)) (pa_cons (pe_ix (ixL K) (pe_ix (ixL K) (pe_dget hu (pv 5) pe_str (fun _ _ => rfl)) (pv 7) (fun _ _ => rfl)) (pv 9) (fun _ _ => rfl)) pa_nil)) rfl))
  (pss_cons (ps_if (pt_not (pt_val (pe_cal c__law_same (hr.mono (by decide)) (pa_cons (pe_cal c_can_swap (hr.mono (by decide)) (pa_cons (pv 4) (pa_cons (pe_cal c__law_shaped (hr.mono (by decide)) (pa_cons (pv 1) (pa_cons (pv 6) pa_nil))) (pa_cons (pv 7) pa_nil)))) (pa_cons (pv 10) pa_nil)))))
   (pss_one (ps_ret pe_bl))
   pss_nil)
  (pss_one (ps_if (PW.pt (pw_and (pt_val (pv 10)) (pw_and1 (pt_not (pt_val (pe_cal c__law_same (hr.mono (by decide)) (pa_cons (pe_cal c_ranks (hr.mono (by decide)) (pa_cons (pv 4) (pa_cons (pe_op op_cat (pe_op op_cat (pe_slice (slL K) (pv 6) po_none (po_some (pv 7))) (pe_lst (pa_cons (pv 8) (pa_cons (pe_ix (ixL K) (pv 6) (pv 7) (fun _ _ => rfl)) pa_nil)))) (pe_slice (slL K) (pv 6) (po_some (pe_op op_add (pv 7) pe_int)) po_none)) pa_nil))) (pa_cons (pe_cal c_ranks (hr.mono (by decide)) (pa_cons (pv 4) (pa_cons (pv 6) pa_nil))) pa_nil))))))))
   (pss_one (ps_ret pe_bl))
   pss_nil)))))))
  (pss_cons (ps_if (pt_not (pt_val (pe_cal c__law_is_bounded (hr.mono (by decide)) (pa_cons (pv 4) (pa_cons (pv 2) (pa_cons (pv 6) pa_nil))))))
   (pss_one (ps_ret pe_bl))
   pss_nil)
  (pss_cons (ps_asg (pe_cal c__law_some_sent (hr.mono (by decide)) (pa_cons (pv 1) (pa_cons (pv 2) (pa_cons pe_int pa_nil)))) (pg_tupK K rfl (pgs_cons (pg_name (i := 11) sc_law.nd rfl (Or.inl rfl)) (pgs_cons (pg_name (i := 12) sc_law.nd rfl (Or.inl rfl)) pgs_nil))))
  (pss_cons (ps_setLc (i := 13) (own := [("_law_link", 15), ("_law_origin", 16), ("_law_index", 17)]) (g := gTup K 3 (gCons (gName 15) (gCons (gName 16) (gCons (gName 17) gNil)))) (by rfl) sc_law.nd rfl rfl (sw_true rfl rfl rfl (by decide +kernel)) (pi_listK K (pv 11)) (blkOk_by (own := [("_law_link", 15), ("_law_origin", 16), ("_law_index", 17)]) (by first | decide +kernel | kernel_rfl)) (fun _ _ _ _ _ => (pg_tupK K rfl (pgs_cons (pg_name (i := 15) sc_law.nd rfl (Or.inl rfl)) (pgs_cons (pg_name (i := 16) sc_law.nd rfl (Or.inl rfl)) (pgs_cons (pg_name (i := 17) sc_law.nd rfl (Or.inl rfl)) pgs_nil))))) (fun _ _ _ _ _ => pts_nil) (fun _ _ _ _ _ => (pe_tup (pa_cons (pv 15) (pa_cons (pe_ix (ixL K) (pe_ix (ixL K) (pe_dget hu (pv 2) pe_str (fun _ _ => rfl)) (pe_m1 PySem.F.slot_str_index PySem.F.type_str_index mt_sindex pe_str (pv 16)) (fun _ _ => rfl)) (pv 17) (fun _ _ => rfl)) pa_nil)))))
  (pss_cons (ps_if (PW.pt (pw_or (pt_cmpR op_notN (pe_cal c_fault (hr.mono (by decide)) (pa_cons (pv 4) (pa_cons (pv 13) pa_nil))) pe_non (nomark _)) (pw_or1 (pt_not (pt_val (pe_cal c__law_same (hr.mono (by decide)) (pa_cons (pe_cal c_idle_steps (hr.mono (by decide)) (pa_cons (pv 4) (pa_cons (pv 13) pa_nil))) (pa_cons (pe_tup pa_nil) pa_nil))))))))
   (pss_one (ps_ret pe_bl))
   pss_nil)
  (pss_cons (ps_set (i := 14) sc_law.nd rfl (Or.inl rfl) (pe_slice sl_str pe_str po_none (po_some (pe_callB (lenK K) rfl W.z_len PySem.boot_len (pa_cons (pe_dget hu (pv 2) pe_str (fun _ _ => rfl)) pa_nil)))))
  (pss_one (ps_ret (pe_cmpR op_eq (pe_cmpR op_eq (pe_cal c_informed (hr.mono (by decide)) (pa_cons (pv 4) (pa_cons (pv 13) pa_nil))) (pv 14) (nomark _)) (pe_cal c__law_is_complete (hr.mono (by decide)) (pa_cons (pv 2) (pa_cons (pv 12) pa_nil))) (nomark _)))))))))))))))), ?_⟩
    walk_at "rd0"
    refine ⟨a, zs, rfl, ha, hl, fun p q cs H1 s1 p1 => ?_⟩
    walk_at "rd"
    refine ⟨p, q, cs, 4, 10, rfl, p1, by decide, by decide, by decide, fun d N H2 hd hN ok hln s2 p2 => ?_⟩
    have hn4 := ok.r4
    have hn0 := ok.r0
    have hl10 := ok.l10
    walk_at "rd"
    refine ⟨p, q, d, cs, N, rfl, p2, hN, ok, fun T H3 hT ⟨b, c, sb, sc, tsH, eT, eb, eqb, ecell, ec⟩ s3 p3 => ?_⟩
    walk_at "rd"
    refine r_ixT eT 0 rfl rfl ?_
    walk_at "rd"
    refine r_ixT eT 1 rfl rfl ?_
    walk_at "rd"
    refine r_ixT eT 2 rfl rfl ?_
    walk_at "rd"
    intro x dx nx ndx nex
    have sN : Same H3 (upd (upd H3 dx (.own x)) x (.ins (CN K) dx [])) := (same_new ndx).trans (same_new (by rw [upd_ne nex.symm]; exact nx))
    refine ⟨x, dx, N, b, c, sb, sc, tsH, rfl, upd_same, ok, ⟨sN _ _ eb, eqb, fun t ht => sN _ _ (ecell t ht)⟩, sN _ _ ec, fun H4 kp dm hNw => ⟨rfl, ?_⟩⟩
    have s4 : Same H3 H4 := span_same nx ndx kp
    have p4 := p3.same s4
    have hN4 : NetAt H4 d N := (hN.kept s3).same s4
    walk_at "rd"
    refine ⟨p, q, cs, _, rfl, p4, by decide, by decide, fun v H5 v0 v1 s5 p5 => ?_⟩
    obtain ⟨most, rfl⟩ : ∃ m : Nat, v = ((m : Nat) : Int) := ⟨v.toNat, by omega⟩
    walk_at "rd"
    refine ⟨p, q, d, cs, N, most, rfl, p5, hN4.kept s5, ok, by omega, fun TD st rw Z S ts hh H6 s6 p6 _ eTD hX hSl => ?_⟩
    have hNw6 : NwAt K H6 x N := (hNw.kept s5).kept s6
    have hN6 : NetAt H6 d N := (hN4.kept s5).kept s6
    have hNw : NwAt K H6 x N := hNw6
    clear hNw6
    obtain ⟨ra, la, rs, hD⟩ := hN6
    have htl := hX.steps.len
    have hhl : hh.length = S.length + 1 := by
      have := congrArg List.length hX.req
      rwa [List.length_map, List.length_map, List.length_range] at this
    walk_at "rd"
    refine ⟨TD, _, rfl, gd_s eTD, ?_⟩
    walk_at "rd"
    refine ⟨_, _, rfl, .inl ⟨_, SqL.of hX.top, by rw [List.length_map]⟩, ?_⟩
    rw [htl]
    walk_at "rd"
    refine ⟨_, rfl, by omega, by omega, for_w (walk_range (lo := 0) (n := (((S.length : Nat) : Int) - 1).toNat)) (fun i σ H' => Kept H6 H' ∧ Pool p q cs H' ∧ ∃ v7 v8 v9 v10, σ = [some (.ref a), some (.ref p), some (.ref d), some (.ref T), some (.ref x), some (.ref TD), some (.ref st), v7, v8, v9, v10, none, none, none, none, none, none, none])
      (by exact ⟨Kept.refl _, p6, none, none, none, none, rfl⟩) (fun _ _ _ _ _ => trivial) ?_ ?_⟩
    · rintro i y σ H0 H7 hi ⟨s7, p7, v7, v8, v9, v10, rfl⟩ ⟨rfl, rfl⟩
      have hi1 : i + 1 < S.length := by omega
      have hX7 := hX.kept s7
      have hD7 := hD.kept s7
      have hNw7 := hNw.kept s7
      have hts1 : i + 1 < ts.length := by omega
      have hts0 : i < ts.length := by omega
      dsimp only
      rw [show (0 : Int) + ((i : Nat) : Int) = ((i : Nat) : Int) from Int.zero_add _]
      walk_at "rd"
      refine r_ixL (v := .ref ts[i + 1].1) hX7.top (i + 1) rfl (by rw [List.getElem?_map, List.getElem?_eq_getElem hts1]; rfl) ?_
      have hc1 := hX7.cell _ (List.getElem_mem hts1)
      have eS : S.getD (i + 1) (0, 0) = ts[i + 1].2 := by
        rw [← hX.eq, List.getD_eq_getElem?_getD, List.getElem?_map, List.getElem?_eq_getElem hts1]; rfl
      have so1 : ts[i + 1].2.1 < N.links.length ∧ ts[i + 1].2.2 < 2 ^ N.v := by
        rw [← eS, getD_eq hi1]; exact hX.ok _ (List.getElem_mem hi1)
      obtain ⟨l1, l2⟩ := so1
      have hlk := ok.link l1
      walk_at "rd"
      refine ⟨d, _, rfl, hD7.gl, ?_⟩
      walk_at "rd"
      refine r_ixT hc1 0 rfl rfl ?_
      refine r_ixL hD7.links ts[i + 1].2.1 rfl (hD7.link l1) ?_
      walk_at "rd"
      refine r_ixS (lk_len _) 0 rfl (lk_0 _) ?_
      refine ⟨_, _, (N.links.getD ts[i + 1].2.1 (0, 0)).1, [], rfl, rfl, n_index _ (by omega), ?_⟩
      walk_at "rd"
      refine r_ixT hc1 1 rfl rfl ?_
      walk_at "rd"
      refine ⟨TD, _, rfl, gd_r (s7.get eTD), ?_⟩
      walk_at "rd"
      have hhi : i < hh.length := by omega
      refine r_ixL (v := .ref hh[i].a) hX7.rtop i rfl (by rw [List.getElem?_map, List.getElem?_eq_getElem hhi]; rfl) ?_
      have hrow := hX7.row _ (List.getElem_mem hhi)
      have ehh : hh[i].h = runS N N.rows (S.take i) := by
        have z : (hh.map (·.h))[i]? = some hh[i].h := by rw [List.getElem?_map, List.getElem?_eq_getElem hhi]; rfl
        rw [hX.req, List.getElem?_map, List.getElem?_range (by omega)] at z
        exact (Option.some.inj z).symm
      rw [ehh] at hrow
      have hrl := runS_len (N := N) (S := S.take i) (h := N.rows)
      obtain ⟨lrow, hlr1, hlr2, hlr3⟩ := hrow.at_ (i := (N.links.getD ts[i + 1].2.1 (0, 0)).1) (by omega)
      walk_at "rd"
      refine r_ixL (v := .ref lrow.1) hrow.top _ rfl (by rw [List.getElem?_map, hlr1]; rfl) ?_
      have hb16 : ∀ m ∈ lrow.2, m < 16 := fun m hm => by
        rw [hlr3, getD_eq (by omega)] at hm
        exact pow16 ok.v (runS_lt (N := N) (S := S.take i) (fun z hz => hX.ok z (List.mem_of_mem_take hz)) (rows_lt2 ok) _ (List.getElem_mem _) m hm)
      walk_at "rd"
      refine ⟨lrow.1, lrow.2, rfl, hrow.row _ hlr2, hb16, fun hd2 L H8 s8 _ eL hSp => ?_⟩
      have hm16 := pow16 ok.v l2
      have hL16 := hSp.lt hb16
      refine ⟨hd2, _, rfl, .inl (SqL.of eL), rfl, all_flat_txt L, ?_⟩
      rw [if_neg Bool.false_ne_true, inV_txt hm16 hL16]
      have edue : decide (ts[i + 1].2.2 ∈ L) = good N N.rows [] (swapAt S i) := by
        rw [swap_good hi1 hX.good, eS]
        show _ = mem ((runS N N.rows (S.take i)).getD (N.links.getD ts[i + 1].2.1 (0, 0)).1 []) ts[i + 1].2.2
        rw [← hlr3]
        cases c : mem lrow.2 ts[i + 1].2.2 with
        | true => exact decide_eq_true ((hSp.iff _).mpr c)
        | false => exact decide_eq_false fun z => by rw [(hSp.iff _).mp z] at c; cases c
      rw [edue]
      have s78 : Kept H6 H8 := s7.same s8
      have p8 := p7.same s8
      have hX8 := hX.kept s78
      walk_at "rd"
      refine ⟨p, q, st, cs, _, rfl, p8, hX8.top, isPool_refs _ _, fun bb c2 H9 hc2 ec2 s9 p9 => ?_⟩
      have s69 := s78.trans s9
      have hX9 := hX.kept s69
      walk_at "rd"
      refine ⟨x, c2, bb, N, S, i, rfl, hNw.kept s69, ok, ⟨ts, ec2, hX.eq, hX9.cell⟩, hX.ok, by omega, hX.good, hi1, fun H10 s10 => ?_⟩
      have s610 := s69.same s10
      have p10 := p9.same s10
      walk_at "rd"
      refine .inl ⟨_, rfl, .inr ⟨_, rfl⟩, ?_⟩
      walk_at "rd"
      refine iteF ?_
      walk_at "rd"
      cases cd : good N N.rows [] (swapAt S i) with
      | false =>
        walk_at "rd"
        exact ⟨s610, p10, _, _, _, _, rfl⟩
      | true =>
        have hX10 := hX.kept s610
        walk_at "rd"
        refine ⟨_, rfl, ?_⟩
        refine ⟨st, _, rfl, SqL.of hX10.top, fun f1 hf1 => ?_⟩
        rw [cut_take, ← List.map_take]
        have q1 : Same H10 (upd H10 f1 (.lst ((ts.take i).map fun t => V.ref t.1))) := same_new hf1
        have e1 : upd H10 f1 (.lst ((ts.take i).map fun t => V.ref t.1)) f1 = some (.lst ((ts.take i).map fun t => V.ref t.1)) := upd_same
        generalize upd H10 f1 (.lst ((ts.take i).map fun t => V.ref t.1)) = H11 at q1 e1 ⊢
        walk_at "rd"
        refine r_ixL (v := .ref ts[i].1) (q1 _ _ hX10.top) i rfl (by rw [List.getElem?_map, List.getElem?_eq_getElem hts0]; rfl) ?_
        walk_at "rd"
        refine ⟨(by show 2 ≤ sizeLine; decide), fun u hu2 => ?_⟩
        have q2 : Same H11 (upd H11 u (.lst [.ref ts[i + 1].1, .ref ts[i].1])) := same_new hu2
        have eu : upd H11 u (.lst [.ref ts[i + 1].1, .ref ts[i].1]) u = some (.lst [.ref ts[i + 1].1, .ref ts[i].1]) := upd_same
        generalize upd H11 u (.lst [.ref ts[i + 1].1, .ref ts[i].1]) = H12 at q2 eu ⊢
        refine ⟨f1, u, _, _, rfl, rfl, q2 _ _ e1, eu, by rw [List.length_map, List.length_take]; show _ + 2 ≤ _; omega, fun f2 hf2 => ?_⟩
        have ef2 : ((ts.take i).map fun t => V.ref t.1) ++ [.ref ts[i + 1].1, .ref ts[i].1] = (ts.take i ++ [ts.getD (i + 1) (0, 0, 0), ts.getD i (0, 0, 0)]).map fun t => V.ref t.1 := by
          rw [List.map_append, getD_eq hts1, getD_eq hts0]; rfl
        rw [ef2]
        have q3 : Same H12 (upd H12 f2 (.lst ((ts.take i ++ [ts.getD (i + 1) (0, 0, 0), ts.getD i (0, 0, 0)]).map fun t => V.ref t.1))) := same_new hf2
        have e3 : upd H12 f2 (.lst ((ts.take i ++ [ts.getD (i + 1) (0, 0, 0), ts.getD i (0, 0, 0)]).map fun t => V.ref t.1)) f2 = some (.lst ((ts.take i ++ [ts.getD (i + 1) (0, 0, 0), ts.getD i (0, 0, 0)]).map fun t => V.ref t.1)) := upd_same
        generalize upd H12 f2 (.lst ((ts.take i ++ [ts.getD (i + 1) (0, 0, 0), ts.getD i (0, 0, 0)]).map fun t => V.ref t.1)) = H13 at q3 e3 ⊢
        have q13 : Same H10 H13 := q1.trans (q2.trans q3)
        walk_at "rd"
        refine ⟨_, rfl, ?_⟩
        walk_at "rd"
        refine ⟨st, _, rfl, SqL.of (q13 _ _ hX10.top), fun f3 hf3 => ?_⟩
        rw [show ((i : Nat) : Int) + 2 = ((i + 2 : Nat) : Int) from rfl, cut_drop, ← List.map_drop]
        have q4 : Same H13 (upd H13 f3 (.lst ((ts.drop (i + 2)).map fun t => V.ref t.1))) := same_new hf3
        have e4 : upd H13 f3 (.lst ((ts.drop (i + 2)).map fun t => V.ref t.1)) f3 = some (.lst ((ts.drop (i + 2)).map fun t => V.ref t.1)) := upd_same
        generalize upd H13 f3 (.lst ((ts.drop (i + 2)).map fun t => V.ref t.1)) = H14 at q4 e4 ⊢
        refine ⟨f2, f3, _, _, rfl, rfl, q4 _ _ e3, e4, by rw [List.length_map, List.length_map, List.length_append, List.length_take, List.length_drop]; show _ + 2 + _ ≤ _; omega, fun f4 hf4 => ?_⟩
        rw [← List.map_append, swap_list hts1]
        have q5 : Same H14 (upd H14 f4 (.lst (((ts.set i (ts.getD (i + 1) (0, 0, 0))).set (i + 1) (ts.getD i (0, 0, 0))).map fun t => V.ref t.1))) := same_new hf4
        have e5 : upd H14 f4 (.lst (((ts.set i (ts.getD (i + 1) (0, 0, 0))).set (i + 1) (ts.getD i (0, 0, 0))).map fun t => V.ref t.1)) f4 = some (.lst (((ts.set i (ts.getD (i + 1) (0, 0, 0))).set (i + 1) (ts.getD i (0, 0, 0))).map fun t => V.ref t.1)) := upd_same
        generalize upd H14 f4 (.lst (((ts.set i (ts.getD (i + 1) (0, 0, 0))).set (i + 1) (ts.getD i (0, 0, 0))).map fun t => V.ref t.1)) = H15 at q5 e5 ⊢
        have q15 : Same H10 H15 := q13.trans (q4.trans q5)
        have hX15 := hX10.kept (Same.kept q15)
        have hSw : StepsX H15 f4 false (swapAt S i) ((ts.set i (ts.getD (i + 1) (0, 0, 0))).set (i + 1) (ts.getD i (0, 0, 0))) := by
          refine ⟨e5, ?_, fun t ht => ?_⟩
          · rw [List.map_set, List.map_set, hX.eq, getD_eq hts1, getD_eq hts0]
            unfold swapAt
            have e2 : S.getD i (0, 0) = ts[i].2 := by
              rw [← hX.eq, List.getD_eq_getElem?_getD, List.getElem?_map, List.getElem?_eq_getElem hts0]; rfl
            rw [eS, e2]
          · have hm : t ∈ ts := by
              rw [getD_eq hts1, getD_eq hts0] at ht
              rcases List.mem_or_eq_of_mem_set ht with q | q
              · rcases List.mem_or_eq_of_mem_set q with q | q
                · exact q
                · rw [q]; exact List.getElem_mem _
              · rw [q]; exact List.getElem_mem _
            exact hX15.cell t hm
        have s615 := s610.same q15
        refine ⟨x, f4, false, N, swapAt S i, rfl, hNw.kept s615, ok, ⟨_, hSw⟩, swap_ok hX.ok hi1, by unfold swapAt; rw [List.length_set, List.length_set]; omega, cd, fun T1 H16 s16 _ eT1 => ?_⟩
        walk_at "rd"
        refine ⟨x, st, false, N, S, rfl, (hNw.kept s615).same s16, ok, ⟨ts, (hX15.kept (Same.kept s16)).steps⟩, hX.ok, by omega, hX.good, fun T2 H17 s17 _ eT2 => ?_⟩
        have eT1' := s17 _ _ eT1
        rw [rk_ints] at eT1' eT2
        have esr : (runS N N.rows (swapAt S i)).map (fun r => ((rk r : Nat) : Int)) = (runS N N.rows S).map fun r => ((rk r : Nat) : Int) := by
          have := congrArg (List.map fun n : Nat => (n : Int)) (swap_ranks (k := i) ok hX.ok hi1)
          rw [List.map_map, List.map_map] at this
          exact this
        rw [esr] at eT1'
        walk_at "rd"
        refine .inr ⟨T1, T2, _, rfl, eT1', eT2, ?_, fun H18 s18 => ?_⟩
        · rw [List.length_map, runS_len]; omega
        · walk_at "rd"
          refine iteF ?_
          walk_at "rd"
          exact ⟨((s615.same s16).same s17).same s18, ((p10.same q15).same (s16.trans s17)).same s18, _, _, _, _, rfl⟩
    · rintro σ H7 ⟨s7, p7, v7, v8, v9, v10, rfl⟩
      have hX7 := hX.kept s7
      have hD7 := hD.kept s7
      have hNw7 := hNw.kept s7
      walk_at "rd"
      refine ⟨x, d, st, N, S, rfl, hNw7, ⟨ra, la, rs, hD7⟩, ok, ⟨ts, hX7.steps⟩, hX.ok, hSl, hX.good, fun H8 s8 => ?_⟩
      walk_at "rd"
      refine iteF ?_
      have p8 := p7.same s8
      have hD8 := hD7.same s8
      have hNw8 := hNw7.same s8
      walk_at "rd"
      refine ⟨p, q, d, cs, N, 10, rfl, p8, ⟨ra, la, rs, hD8⟩, ok, by decide, fun TS st2 ha SS ts2 H9 s9 p9 eTS hSX hSSl => ?_⟩
      have hD9 := hD8.kept s9
      have hNw9 := hNw8.kept s9
      have ht2 : ts2.length = SS.length := by rw [← hSX.eq, List.length_map]
      refine r_gtup eTS rfl ?_
      walk_at "rd"
      obtain ⟨g1, g2, g3⟩ := goodT_good hSX.good
      rw [ofA_beg] at g1 g2 g3
      have so2 := goodT_ok ok hSX.good
      have hcl : (coded N SS).length = SS.length := by unfold coded; rw [List.length_map]
      refine ⟨st2, rfl, ⟨_, SqL.of hSX.top⟩, fun D hDn => lc_new walk_list ySame_at (by rw [List.length_map]; omega) hDn (fun _ => true) (fun j => .tup (stepV ((coded N SS).getD j (0, 0)).1 ((coded N SS).getD j (0, 0)).2)) (fun H10 s10 => SqL.of (s10 _ _ hSX.top)) ?_ fun H10 tsC s10 e10 em kk _ => ?_⟩
      · rintro j z Hc H' R E hj s ⟨rfl, hz⟩ hR hE
        rw [List.length_map] at hj
        rw [List.getElem?_map, List.getElem?_eq_getElem hj] at hz
        cases hz
        have hcell := s _ _ (hSX.cell _ (List.getElem_mem hj))
        have hjS : j < SS.length := by omega
        have eS : SS[j] = ts2[j].2 := by
          have z : (ts2.map (·.2))[j]? = some ts2[j].2 := by rw [List.getElem?_map, List.getElem?_eq_getElem hj]; rfl
          rw [hSX.eq, List.getElem?_eq_getElem hjS] at z
          exact Option.some.inj z
        have eC : (coded N SS).getD j (0, 0) = (ts2[j].2.1, msgAt N ts2[j].2.2) := by
          rw [getD_eq (by omega)]
          unfold coded
          rw [List.getElem_map, eS]
        rw [eC] at hR
        have ho : orgOK N ts2[j].2.2 := by
          have := goodT_org hSX.good SS[j] (List.getElem_mem hjS)
          rwa [eS] at this
        have ho1 := ho.1
        have hDc := hD9.same s
        obtain ⟨ro, h1, h2⟩ := hDc.row ho1
        walk_at "wp"
        refine r_gtup hcell rfl ?_
        walk_at "rd"
        walk_at "wp"
        refine ⟨rfl, ?_⟩
        walk_at "rd"
        refine ⟨d, _, rfl, hDc.gn, ?_⟩
        walk_at "rd"
        refine ⟨_, _, ts2[j].2.2.1, [], rfl, rfl, n_index _ (by omega), ?_⟩
        refine r_ixL hDc.nodes ts2[j].2.2.1 rfl h1 ?_
        walk_at "rd"
        refine r_ixL (v := tv (msgAt N ts2[j].2.2)) h2 ts2[j].2.2.2 rfl (by rw [List.getElem?_map, msgAt_get ho]; rfl) ?_
        walk_at "rd"
        refine ⟨(by show 2 ≤ sizeLine; decide), fun T3 hT3 => ?_⟩
        exact hR rfl T3 _ (same_new hT3) hT3 upd_same
      · have emL : tsC.map (·.2) = (List.range SS.length).map fun j => HO.tup (stepV ((coded N SS).getD j (0, 0)).1 ((coded N SS).getD j (0, 0)).2) := by
          rw [em, List.length_map, ht2]
          congr 1
          exact List.filter_eq_self.mpr fun _ _ => rfl
        have hCl : tsC.length = SS.length := by
          have := congrArg List.length emL
          rwa [List.length_map, List.length_map, List.length_range] at this
        have hSC : StepsX H10 D false (coded N SS) ((List.range SS.length).map fun j => ((tsC.getD j (0, .lst [])).1, (coded N SS).getD j (0, 0))) := by
          refine ⟨?_, ?_, fun t ht => ?_⟩
          · rw [e10, List.map_map]
            show some (HO.lst _) = some (.lst _)
            congr 2
            refine List.ext_getElem (by simp [hCl]) fun j q1 q2 => ?_
            simp at q1 q2
            simp [q1, List.getD_eq_getElem?_getD]
          · rw [List.map_map]
            refine List.ext_getElem (by simp [hcl]) fun j q1 q2 => ?_
            simp at q1 q2
            simp [q2, List.getD_eq_getElem?_getD]
          · obtain ⟨j, hj, rfl⟩ := List.mem_map.mp ht
            have hj := List.mem_range.mp hj
            have hj2 : j < tsC.length := by omega
            show H10 (tsC.getD j _).1 = _
            rw [getD_eq hj2, (kk _ (List.getElem_mem hj2)).2.1]
            have z1 : (tsC.map (·.2))[j]? = some tsC[j].2 := by rw [List.getElem?_map, List.getElem?_eq_getElem hj2]; rfl
            rw [emL, List.getElem?_map, List.getElem?_range hj] at z1
            exact z1.symm
        generalize (List.range SS.length).map (fun j => ((tsC.getD j (0, HO.lst [])).1, (coded N SS).getD j (0, 0))) = tsS at hSC
        have hNw10 := hNw9.same s10
        walk_at "rd"
        refine ⟨x, D, false, N, coded N SS, rfl, hNw10, ok, ⟨tsS, hSC⟩, so2, by omega, fun vf H11 s11 hv _ => ?_⟩
        cases hv g1
        walk_at "rd"
        refine ⟨rfl, ?_⟩
        rw [show (!decide (V.non = V.non)) = false from rfl]
        walk_at "rd"
        refine ⟨x, D, false, N, coded N SS, rfl, hNw10.same s11, ok, ⟨tsS, hSC.same s11⟩, so2, by omega, g1, fun TI H12 s12 eTI => ?_⟩
        have e0 : ((List.range (coded N SS).length).filter fun i => !(news N N.rows (coded N SS)).getD i false) = [] := by
          rw [List.filter_eq_nil_iff]
          intro j hj
          have hj := List.mem_range.mp hj
          rw [getD_eq (by rw [news_len]; exact hj), g2 _ (List.getElem_mem _)]
          simp
        rw [e0] at eTI
        walk_at "rd"
        refine ⟨Nat.zero_le _, fun TZ hTZ => ?_⟩
        have s13 : Same H12 (upd H12 TZ (.tup [])) := same_new hTZ
        have eTZ : upd H12 TZ (.tup []) TZ = some (.tup []) := upd_same
        have eTI' := s13 _ _ eTI
        generalize upd H12 TZ (.tup []) = H13 at s13 eTZ eTI' ⊢
        walk_at "rd"
        refine .inr ⟨TI, TZ, [], rfl, eTI', eTZ, by decide, fun H14 s14 => ?_⟩
        walk_at "rd"
        refine iteF ?_
        have s914 : Same H9 H14 := s10.trans (s11.trans (s12.trans (s13.trans s14)))
        have hD14 := hD9.same s914
        walk_at "rd"
        refine ⟨d, _, rfl, hD14.gn, ?_⟩
        walk_at "rd"
        refine ⟨_, _, rfl, .inl ⟨_, SqL.of hD14.nodes, by rw [List.length_map]⟩, ?_⟩
        rw [hD14.len]
        refine ⟨_, rfl, ?_⟩
        walk_at "rd"
        refine ⟨_, rfl, (by decide), ?_⟩
        have ec : cutS (Str.ofString "ABCDEF") none (some ((N.rows.length : Nat) : Int)) = nset (2 ^ N.rows.length - 1) := n_cut _ (by omega)
        rw [ec]
        walk_at "rd"
        refine ⟨x, D, false, N, coded N SS, rfl, hNw9.same s914, ok, ⟨tsS, hSC.same (s11.trans (s12.trans (s13.trans s14)))⟩, so2, by omega, g1, fun H15 s15 => ?_⟩
        walk_at "rd"
        rw [told_all (by omega)]
        refine ⟨d, ha, N, runT N (beg N N.rows.length) SS, rfl, ⟨ra, la, rs, hD14.same s15⟩, ok, (hSX.has.same (s914.trans s15)).a, by rw [runT_len, beg_len], fun r hr => by have := runT_bound (N := N) (SS := SS) (beg_bound ok) r hr; omega, fun H16 s16 => ?_⟩
        refine r_eqB ?_ (k _)
        rw [g3, msgs63 ok]
        have hrt : (runT N (beg N N.rows.length) SS).length = N.rows.length := by rw [runT_len, beg_len]
        rw [Bool.eq_iff_iff, List.all_eq_true, List.all_eq_true]
        constructor
        · intro h r hr
          obtain ⟨j, hj, rfl⟩ := List.getElem_of_mem hr
          have := h j (List.mem_range.mpr (by omega))
          rw [ofA_getD, getD_eq hj] at this
          exact this
        · intro h j hj
          have hj := List.mem_range.mp hj
          rw [ofA_getD, getD_eq (by omega)]
          exact h _ (List.getElem_mem _)
end
end Kn
set_option Elab.async false
set_option linter.all false
set_option maxRecDepth 100000
set_option maxHeartbeats 0
namespace Kn
open PySem PySem.Spec PyProof.Rows L2
theorem facts {P : Program} {w : World} {K : PySem.W.Frag} {h : Heap} {mg : Str → Option Value} {f : Addr} (X : K.In h) (G : h.Ns mainGlobals mg) (hfa : mg ("law" : Str) = some (.ref f)) (c : obsK K = valK) :
    ∃ fd : FuncData, (∀ (s : Shared) (v : Value), BindsTo s fd ⟨[v], []⟩ [("_law_script", v)]) ∧ ∀ base : Heap, K.In base → base.Ns mainGlobals mg → FnOk P w K mg base CX0 11 f fd ["_law_script"] (spLaw K) := by
  have c1 : emptyT K (He.dflAt ("Span", some "__init__") 0 K) = true := congrArg Prod.fst c
  have c2 : He.obsD fa fn K = He.valD fn := congrArg Prod.snd c
  have W : TW K mg := TW.mk' X G c2 (emptyT_ok c1)
  obtain ⟨fd, F⟩ := W.f_law
  have e := hfa.symm.trans W.g_law
  cases e
  have b := FunD.bindsA (ps := ["_law_script"]) F fun _ _ _ _ _ _ us hl => match us, hl with | [_], _ => rfl
  refine ⟨fd, fun s v => b s [v] rfl, fun base _ _ => ?_⟩
  exact ok_law W F
end Kn
open PySem PySem.W PySem.Calls PyProof.Rows
theorem PySem.Challenge.cw_allknow_k10_whole_steps_holds : PySem.Challenge.rw_allknow_k10_whole_steps.Holds := by
  w_on; o_law
  refine HandSHeadRun.head_any (r := OpenLaw.row PySem.Challenge.rw_allknow_k10_whole_steps) (q := view (OpenLaw.row PySem.Challenge.rw_allknow_k10_whole_steps).prog [Kn.lawIx]) (H := Kn.hk) (ob := Kn.ob) (M := 6000) (loose := Kn.lo) (d := HandSHeadRun.topDef (OpenLaw.row PySem.Challenge.rw_allknow_k10_whole_steps).prog Kn.lawIx) (kwd := []) Kn.ob_eq
    (by kernel_rfl) (fun s => by kernel_rfl) Kn.run (by kernel_rfl) (by kernel_rfl) (by kernel_rfl) (by rfl) (by first | assumption | decide +kernel) (by decide +kernel) ⟨rfl, rfl, rfl, rfl, rfl, by decide +kernel⟩ ?hw ?hc
  case hw => w_witness2
  case hc =>
    refine L2.walk_ofE (l := PySem.Challenge.rw_allknow_k10_whole_steps) (n := 63) (k := 11) (x := "_law_script") (CX := L2.CX0) rfl (by decide) (by kernel_rfl) ⟨rfl, by decide, by decide⟩ ?F (fun _ _ _ _ z => z)
    intro w mg fa h Y G hmg0
    obtain ⟨K, KX, c⟩ := Y
    have hmg : mg ("law" : PySem.Str) = some (.ref fa) := by
      have e : (HandSHeadRun.topDef (OpenLaw.row PySem.Challenge.rw_allknow_k10_whole_steps).prog Kn.lawIx).name = ("law" : PySem.Str) := by kernel_rfl
      rw [← e]
      exact hmg0
    obtain ⟨fd, hb, hF⟩ := Kn.facts (P := (PySem.Challenge.rw_allknow_k10_whole_steps).prog) (w := w) KX G hmg c
    exact ⟨K, fd, Kn.spLaw K, KX, hb, fun H a ns hl _ hS => ⟨a, ns, rfl, hS, by omega, fun _ => rfl⟩, hF⟩
