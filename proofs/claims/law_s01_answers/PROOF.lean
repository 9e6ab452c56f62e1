import PyProof.Rows.All
import Wide.All
import OpenK.AllK
import Wide.FinOn
import Open.SpecLaws
import KE.OsGo
import HandS.ForSpec
import HandS.ForMost
import HandS.ExcInit
import HandS.HotCalls
import HandS.Strs
import HandS.Deep
import HandS.ExcCtx
import HandS.Walk
import HandS.ExcField
import PyZr20
import PySem.Challenge.RW_resetline_s01_answers
set_option Elab.async false
section
set_option Elab.async false
set_option linter.all false
set_option maxRecDepth 100000
set_option maxHeartbeats 4000000
namespace Rl
open PySem PySem.Spec PyProof.Rows L2
/-- a def of the top, how its arguments bind -/
structure FnAt (K : PySem.W.Frag) (x q : Str) (st : Stmt) (ps : List Str) (f : Addr) : Prop where
  ex : ∃ fd, Fun K x q st f fd ∧ Binds K fd ps []
theorem FnAt.of {K : PySem.W.Frag} {x q : Str} {st : Stmt} {ps : List Str} {f : Addr} {fd : FuncData} (F : Fun K x q st f fd) (b : Binds K fd ps []) : FnAt K x q st ps f := ⟨⟨fd, F, b⟩⟩
/-- a tuple that the top has written -/
def WrT (K : PySem.W.Frag) (a : Addr) (xs : List V) : Prop := ∃ (o : Obj) (its : Array Value) (n : Nat), K.lookup a = some o ∧ o.cls = .type "tuple" ∧ o.dict = none ∧ o.data = .seq its n ∧ its.size ≤ sizeLine ∧ Vals xs its.toList
/-- an error of the class at S is what «except S» names -/
theorem exm_self {K : PySem.W.Frag} {S : Addr} (h1 : PySem.W.subIn K (.ref S) (.type "BaseException") = some true) (h2 : PySem.W.isClsIn K S = true) (h3 : PySem.W.typeIn K (.ref S) = some (.type "type")) (h4 : PySem.W.subIn K (.ref S) (.ref S) = some true) :
    PySem.W.exmOne K (.ref S) (.ref S) = some true := by
  have e1 : (PySem.W.subIn K (.ref S) (.type "BaseException") == some true) = true := by rw [h1] <;> rfl
  have e2 : ((PySem.W.clsIn K S).isSome && PySem.W.typeIn K (.ref S) == some (.type "type")) = true := by
    have h2' : (PySem.W.clsIn K S).isSome = true := h2
    rw [h2', h3] <;> rfl
  show (if (PySem.W.subIn K (.ref S) (.type "BaseException") == some true) = true then (if ((PySem.W.clsIn K S).isSome && PySem.W.typeIn K (.ref S) == some (.type "type")) = true then PySem.W.subIn K (.ref S) (.ref S) else none) else none) = some true
  rw [if_pos e1, if_pos e2]
  exact h4
def top (i : Nat) : Stmt := PySem.Challenge.pw_resetline_s01_answers.main.body.getD i (.Pass ⟨0, 0, 0, 0⟩)
abbrev s_codes_of : Stmt := top 12
abbrev s_integer : Stmt := top 13
abbrev s_text : Stmt := top 14
abbrev s_truth : Stmt := top 15
abbrev s_listed : Stmt := top 16
abbrev s_integers : Stmt := top 17
abbrev s_record : Stmt := top 18
abbrev s_low_first : Stmt := top 19
abbrev s_octets_of : Stmt := top 20
abbrev s_R_init : Stmt := inClass (top 21) 0
abbrev s_R_number : Stmt := inClass (top 21) 1
abbrev s_R_plain : Stmt := inClass (top 21) 2
abbrev s_R_value : Stmt := inClass (top 21) 3
abbrev s_R_whole : Stmt := inClass (top 21) 4
abbrev s_X_init : Stmt := inClass (top 22) 0
abbrev s_wrong_kind : Stmt := top 23
abbrev s_out_of_range : Stmt := top 24
abbrev s_E_init : Stmt := inClass (top 36) 0
abbrev s_E_clear : Stmt := inClass (top 36) 1
abbrev s_E_anew : Stmt := inClass (top 36) 2
abbrev s_E_note : Stmt := inClass (top 36) 3
abbrev s_L_init : Stmt := inClass (top 37) 0
abbrev s_L_put : Stmt := inClass (top 37) 1
abbrev s_L_can_send : Stmt := inClass (top 37) 2
abbrev s_L_send : Stmt := inClass (top 37) 3
abbrev s_L_take : Stmt := inClass (top 37) 4
abbrev s_L_reset : Stmt := inClass (top 37) 5
abbrev s_L_arrive : Stmt := inClass (top 37) 6
abbrev s_C_init : Stmt := inClass (top 38) 0
abbrev s_C_is_quiet : Stmt := inClass (top 38) 1
abbrev s_C_terminal : Stmt := inClass (top 38) 2
abbrev s_C_check_send : Stmt := inClass (top 38) 3
abbrev s_C_send : Stmt := inClass (top 38) 4
abbrev s_C_read : Stmt := inClass (top 38) 5
abbrev s_C_links_at : Stmt := inClass (top 38) 6
abbrev s_C_can_forward : Stmt := inClass (top 38) 7
abbrev s_C_pass_on : Stmt := inClass (top 38) 8
abbrev s_C_forward : Stmt := inClass (top 38) 9
abbrev s_C_deliver : Stmt := inClass (top 38) 10
abbrev s_C_reset : Stmt := inClass (top 38) 11
abbrev s_C_step : Stmt := inClass (top 38) 12
abbrev s_messages_of : Stmt := top 39
abbrev s_W_init : Stmt := inClass (top 40) 0
abbrev s_W_take : Stmt := inClass (top 40) 1
abbrev s_is_integer : Stmt := top 46
abbrev s_number_of : Stmt := top 47
abbrev s_member : Stmt := top 48
abbrev s_side_of : Stmt := top 49
abbrev s_circuits_of : Stmt := top 50
abbrev s_told_packet : Stmt := top 51
abbrev s_told_packets : Stmt := top 52
abbrev s_told_item : Stmt := top 53
abbrev s_told_end : Stmt := top 54
abbrev s_told_link : Stmt := top 55
abbrev s_told_log : Stmt := top 56
abbrev s_told_messages : Stmt := top 57
abbrev s_octet_of : Stmt := top 58
abbrev s_on_terminal : Stmt := top 59
abbrev s_on_circuit : Stmt := top 60
abbrev s_told_step : Stmt := top 61
abbrev s_on_walk : Stmt := top 62
abbrev s_B_init : Stmt := inClass (top 63) 0
abbrev s_B_circuit_of : Stmt := inClass (top 63) 1
abbrev s_B_restart : Stmt := inClass (top 63) 2
abbrev s_B_told_state : Stmt := inClass (top 63) 3
abbrev s_B_call : Stmt := inClass (top 63) 4
abbrev s_answered : Stmt := top 64
abbrev s_answers : Stmt := top 65
abbrev n_codes_of : List Str := ["text", "sign"]
abbrev p_codes_of : List Str := ["text"]
abbrev n_integer : List Str := ["number"]
abbrev p_integer : List Str := ["number"]
abbrev n_text : List Str := ["string"]
abbrev p_text : List Str := ["string"]
abbrev n_truth : List Str := ["told"]
abbrev p_truth : List Str := ["told"]
abbrev n_listed : List Str := ["rows"]
abbrev p_listed : List Str := ["rows"]
abbrev n_integers : List Str := ["rows", "number"]
abbrev p_integers : List Str := ["rows"]
abbrev n_record : List Str := ["pairs", "name", "value"]
abbrev p_record : List Str := ["pairs"]
abbrev n_low_first : List Str := ["number", "many", "found", "turn"]
abbrev p_low_first : List Str := ["number", "many"]
abbrev n_octets_of : List Str := ["value", "kind", "found", "part"]
abbrev p_octets_of : List Str := ["value"]
abbrev n_R_init : List Str := ["self", "octets"]
abbrev p_R_init : List Str := ["self", "octets"]
abbrev n_R_number : List Str := ["self", "many", "found", "back"]
abbrev p_R_number : List Str := ["self", "many"]
abbrev n_R_plain : List Str := ["self", "many"]
abbrev p_R_plain : List Str := ["self"]
abbrev n_R_value : List Str := ["self", "kind", "found", "rows", "turn", "name"]
abbrev p_R_value : List Str := ["self"]
abbrev n_R_whole : List Str := ["self", "door", "turn"]
abbrev p_R_whole : List Str := ["self"]
abbrev n_X_init : List Str := ["self", "order", "message", "further"]
abbrev p_X_init : List Str := ["self", "order", "message", "further"]
abbrev n_wrong_kind : List Str := ["wrong", "message"]
abbrev p_wrong_kind : List Str := ["wrong", "message"]
abbrev n_out_of_range : List Str := ["wrong", "message"]
abbrev p_out_of_range : List Str := ["wrong", "message"]
abbrev n_E_init : List Str := ["self"]
abbrev p_E_init : List Str := ["self"]
abbrev n_E_clear : List Str := ["self"]
abbrev p_E_clear : List Str := ["self"]
abbrev n_E_anew : List Str := ["self", "rows"]
abbrev p_E_anew : List Str := ["self"]
abbrev n_E_note : List Str := ["self", "rows", "kind", "packet", "own"]
abbrev p_E_note : List Str := ["self", "rows", "kind", "packet"]
abbrev n_L_init : List Str := ["self"]
abbrev p_L_init : List Str := ["self"]
abbrev n_L_put : List Str := ["self", "side", "kind", "packet"]
abbrev p_L_put : List Str := ["self", "side", "kind", "packet"]
abbrev n_L_can_send : List Str := ["self", "side", "kind", "window", "end"]
abbrev p_L_can_send : List Str := ["self", "side", "kind", "window"]
abbrev n_L_send : List Str := ["self", "side", "kind", "packet", "end"]
abbrev p_L_send : List Str := ["self", "side", "kind", "packet"]
abbrev n_L_take : List Str := ["self", "side", "kind", "own", "found"]
abbrev p_L_take : List Str := ["self", "side", "kind"]
abbrev n_L_reset : List Str := ["self", "side", "end"]
abbrev p_L_reset : List Str := ["self", "side"]
abbrev n_L_arrive : List Str := ["self", "side", "kind", "packet", "end", "is_new", "own"]
abbrev p_L_arrive : List Str := ["self", "side"]
abbrev n_C_init : List Str := ["self", "nodes", "window", "link"]
abbrev p_C_init : List Str := ["self", "nodes", "window"]
abbrev n_C_is_quiet : List Str := ["self", "link"]
abbrev p_C_is_quiet : List Str := ["self"]
abbrev n_C_terminal : List Str := ["self", "side"]
abbrev p_C_terminal : List Str := ["self", "side"]
abbrev n_C_check_send : List Str := ["self", "link", "side", "kind"]
abbrev p_C_check_send : List Str := ["self", "link", "side", "kind"]
abbrev n_C_send : List Str := ["self", "side", "kind", "packet", "link"]
abbrev p_C_send : List Str := ["self", "side", "kind", "packet"]
abbrev n_C_read : List Str := ["self", "side", "kind", "link"]
abbrev p_C_read : List Str := ["self", "side", "kind"]
abbrev n_C_links_at : List Str := ["self", "node", "direction", "before", "behind"]
abbrev p_C_links_at : List Str := ["self", "node", "direction"]
abbrev n_C_can_forward : List Str := ["self", "node", "direction", "kind", "source", "target"]
abbrev p_C_can_forward : List Str := ["self", "node", "direction", "kind"]
abbrev n_C_pass_on : List Str := ["self", "node", "direction", "kind", "source", "target"]
abbrev p_C_pass_on : List Str := ["self", "node", "direction", "kind"]
abbrev n_C_forward : List Str := ["self", "node", "direction", "kind", "source", "target"]
abbrev p_C_forward : List Str := ["self", "node", "direction", "kind"]
abbrev n_C_deliver : List Str := ["self", "link", "direction", "own", "kind", "is_new", "other"]
abbrev p_C_deliver : List Str := ["self", "link", "direction"]
abbrev n_C_reset : List Str := ["self", "node"]
abbrev p_C_reset : List Str := ["self", "node"]
abbrev n_C_step : List Str := ["self", "direction", "link", "kind", "node"]
abbrev p_C_step : List Str := ["self"]
abbrev n_messages_of : List Str := ["packets", "found", "row", "value", "more"]
abbrev p_messages_of : List Str := ["packets"]
abbrev n_W_init : List Str := ["self", "circuit"]
abbrev p_W_init : List Str := ["self", "circuit"]
abbrev n_W_take : List Str := ["self", "found"]
abbrev p_W_take : List Str := ["self"]
abbrev n_is_integer : List Str := ["value", "least", "most"]
abbrev p_is_integer : List Str := ["value", "least", "most"]
abbrev n_number_of : List Str := ["value", "name", "least", "most", "wrong"]
abbrev p_number_of : List Str := ["value", "name", "least", "most"]
abbrev n_member : List Str := ["value", "name", "own", "one"]
abbrev p_member : List Str := ["value", "name"]
abbrev n_side_of : List Str := ["value", "name", "side"]
abbrev p_side_of : List Str := ["value", "name"]
abbrev n_circuits_of : List Str := ["value", "nodes", "many", "window", "circuit"]
abbrev p_circuits_of : List Str := ["value"]
abbrev n_told_packet : List Str := ["packet"]
abbrev p_told_packet : List Str := ["packet"]
abbrev n_told_packets : List Str := ["packets", "packet"]
abbrev p_told_packets : List Str := ["packets"]
abbrev n_told_item : List Str := ["item", "kind", "packet"]
abbrev p_told_item : List Str := ["item"]
abbrev n_told_end : List Str := ["end", "pairs"]
abbrev p_told_end : List Str := ["end"]
abbrev n_told_link : List Str := ["link", "pairs", "item"]
abbrev p_told_link : List Str := ["link"]
abbrev n_told_log : List Str := ["end", "kind", "sent", "row"]
abbrev p_told_log : List Str := ["end", "kind"]
abbrev n_told_messages : List Str := ["end", "rows", "row", "message"]
abbrev p_told_messages : List Str := ["end"]
abbrev n_octet_of : List Str := ["value"]
abbrev p_octet_of : List Str := ["value"]
abbrev n_on_terminal : List Str := ["circuit", "door", "given", "side", "value", "end"]
abbrev p_on_terminal : List Str := ["circuit", "door", "given"]
abbrev n_on_circuit : List Str := ["circuit", "door", "given", "last", "node", "link", "kind", "limit", "found"]
abbrev p_on_circuit : List Str := ["circuit", "door", "given"]
abbrev n_told_step : List Str := ["value", "is_done"]
abbrev p_told_step : List Str := ["value", "is_done"]
abbrev n_on_walk : List Str := ["walk", "door", "given", "found", "what", "at", "direction", "pairs"]
abbrev p_on_walk : List Str := ["walk", "door", "given"]
abbrev n_B_init : List Str := ["self"]
abbrev p_B_init : List Str := ["self"]
abbrev n_B_circuit_of : List Str := ["self", "net", "value"]
abbrev p_B_circuit_of : List Str := ["self", "net", "value"]
abbrev n_B_restart : List Str := ["self", "net", "value", "node", "circuit"]
abbrev p_B_restart : List Str := ["self", "net", "value"]
abbrev n_B_told_state : List Str := ["self", "net", "quiet", "circuit"]
abbrev p_B_told_state : List Str := ["self", "net"]
abbrev n_B_call : List Str := ["self", "door", "given", "slot", "net", "circuit"]
abbrev p_B_call : List Str := ["self", "door", "given"]
abbrev n_answered : List Str := ["library", "octets", "door", "given", "e", "message"]
abbrev p_answered : List Str := ["library", "octets"]
abbrev n_answers : List Str := ["calls", "library", "found", "at", "many", "answer"]
abbrev p_answers : List Str := ["calls"]
theorem sc_codes_of : FnScope n_codes_of p_codes_of (defScope s_codes_of) := ⟨rfl, rfl, rfl, by decide +kernel, rfl, by decide +kernel, by decide +kernel⟩
theorem sc_integer : FnScope n_integer p_integer (defScope s_integer) := ⟨rfl, rfl, rfl, by decide +kernel, rfl, by decide +kernel, by decide +kernel⟩
theorem sc_text : FnScope n_text p_text (defScope s_text) := ⟨rfl, rfl, rfl, by decide +kernel, rfl, by decide +kernel, by decide +kernel⟩
theorem sc_truth : FnScope n_truth p_truth (defScope s_truth) := ⟨rfl, rfl, rfl, by decide +kernel, rfl, by decide +kernel, by decide +kernel⟩
theorem sc_listed : FnScope n_listed p_listed (defScope s_listed) := ⟨rfl, rfl, rfl, by decide +kernel, rfl, by decide +kernel, by decide +kernel⟩
theorem sc_integers : FnScope n_integers p_integers (defScope s_integers) := ⟨rfl, rfl, rfl, by decide +kernel, rfl, by decide +kernel, by decide +kernel⟩
theorem sc_record : FnScope n_record p_record (defScope s_record) := ⟨rfl, rfl, rfl, by decide +kernel, rfl, by decide +kernel, by decide +kernel⟩
theorem sc_low_first : FnScope n_low_first p_low_first (defScope s_low_first) := ⟨rfl, rfl, rfl, by decide +kernel, rfl, by decide +kernel, by decide +kernel⟩
theorem sc_octets_of : FnScope n_octets_of p_octets_of (defScope s_octets_of) := ⟨rfl, rfl, rfl, by decide +kernel, rfl, by decide +kernel, by decide +kernel⟩
theorem sc_R_init : FnScope n_R_init p_R_init (defScope s_R_init) := ⟨rfl, rfl, rfl, by decide +kernel, rfl, by decide +kernel, by decide +kernel⟩
theorem sc_R_number : FnScope n_R_number p_R_number (defScope s_R_number) := ⟨rfl, rfl, rfl, by decide +kernel, rfl, by decide +kernel, by decide +kernel⟩
theorem sc_R_plain : FnScope n_R_plain p_R_plain (defScope s_R_plain) := ⟨rfl, rfl, rfl, by decide +kernel, rfl, by decide +kernel, by decide +kernel⟩
theorem sc_R_value : FnScope n_R_value p_R_value (defScope s_R_value) := ⟨rfl, rfl, rfl, by decide +kernel, rfl, by decide +kernel, by decide +kernel⟩
theorem sc_R_whole : FnScope n_R_whole p_R_whole (defScope s_R_whole) := ⟨rfl, rfl, rfl, by decide +kernel, rfl, by decide +kernel, by decide +kernel⟩
theorem sc_X_init : FnScope n_X_init p_X_init (defScope s_X_init) := ⟨rfl, rfl, rfl, by decide +kernel, rfl, by decide +kernel, by decide +kernel⟩
theorem sc_wrong_kind : FnScope n_wrong_kind p_wrong_kind (defScope s_wrong_kind) := ⟨rfl, rfl, rfl, by decide +kernel, rfl, by decide +kernel, by decide +kernel⟩
theorem sc_out_of_range : FnScope n_out_of_range p_out_of_range (defScope s_out_of_range) := ⟨rfl, rfl, rfl, by decide +kernel, rfl, by decide +kernel, by decide +kernel⟩
theorem sc_E_init : FnScope n_E_init p_E_init (defScope s_E_init) := ⟨rfl, rfl, rfl, by decide +kernel, rfl, by decide +kernel, by decide +kernel⟩
theorem sc_E_clear : FnScope n_E_clear p_E_clear (defScope s_E_clear) := ⟨rfl, rfl, rfl, by decide +kernel, rfl, by decide +kernel, by decide +kernel⟩
theorem sc_E_anew : FnScope n_E_anew p_E_anew (defScope s_E_anew) := ⟨rfl, rfl, rfl, by decide +kernel, rfl, by decide +kernel, by decide +kernel⟩
theorem sc_E_note : FnScope n_E_note p_E_note (defScope s_E_note) := ⟨rfl, rfl, rfl, by decide +kernel, rfl, by decide +kernel, by decide +kernel⟩
theorem sc_L_init : FnScope n_L_init p_L_init (defScope s_L_init) := ⟨rfl, rfl, rfl, by decide +kernel, rfl, by decide +kernel, by decide +kernel⟩
theorem sc_L_put : FnScope n_L_put p_L_put (defScope s_L_put) := ⟨rfl, rfl, rfl, by decide +kernel, rfl, by decide +kernel, by decide +kernel⟩
theorem sc_L_can_send : FnScope n_L_can_send p_L_can_send (defScope s_L_can_send) := ⟨rfl, rfl, rfl, by decide +kernel, rfl, by decide +kernel, by decide +kernel⟩
theorem sc_L_send : FnScope n_L_send p_L_send (defScope s_L_send) := ⟨rfl, rfl, rfl, by decide +kernel, rfl, by decide +kernel, by decide +kernel⟩
theorem sc_L_take : FnScope n_L_take p_L_take (defScope s_L_take) := ⟨rfl, rfl, rfl, by decide +kernel, rfl, by decide +kernel, by decide +kernel⟩
theorem sc_L_reset : FnScope n_L_reset p_L_reset (defScope s_L_reset) := ⟨rfl, rfl, rfl, by decide +kernel, rfl, by decide +kernel, by decide +kernel⟩
theorem sc_L_arrive : FnScope n_L_arrive p_L_arrive (defScope s_L_arrive) := ⟨rfl, rfl, rfl, by decide +kernel, rfl, by decide +kernel, by decide +kernel⟩
theorem sc_C_init : FnScope n_C_init p_C_init (defScope s_C_init) := ⟨rfl, rfl, rfl, by decide +kernel, rfl, by decide +kernel, by decide +kernel⟩
theorem sc_C_is_quiet : FnScope n_C_is_quiet p_C_is_quiet (defScope s_C_is_quiet) := ⟨rfl, rfl, rfl, by decide +kernel, rfl, by decide +kernel, by decide +kernel⟩
theorem sc_C_terminal : FnScope n_C_terminal p_C_terminal (defScope s_C_terminal) := ⟨rfl, rfl, rfl, by decide +kernel, rfl, by decide +kernel, by decide +kernel⟩
theorem sc_C_check_send : FnScope n_C_check_send p_C_check_send (defScope s_C_check_send) := ⟨rfl, rfl, rfl, by decide +kernel, rfl, by decide +kernel, by decide +kernel⟩
theorem sc_C_send : FnScope n_C_send p_C_send (defScope s_C_send) := ⟨rfl, rfl, rfl, by decide +kernel, rfl, by decide +kernel, by decide +kernel⟩
theorem sc_C_read : FnScope n_C_read p_C_read (defScope s_C_read) := ⟨rfl, rfl, rfl, by decide +kernel, rfl, by decide +kernel, by decide +kernel⟩
theorem sc_C_links_at : FnScope n_C_links_at p_C_links_at (defScope s_C_links_at) := ⟨rfl, rfl, rfl, by decide +kernel, rfl, by decide +kernel, by decide +kernel⟩
theorem sc_C_can_forward : FnScope n_C_can_forward p_C_can_forward (defScope s_C_can_forward) := ⟨rfl, rfl, rfl, by decide +kernel, rfl, by decide +kernel, by decide +kernel⟩
theorem sc_C_pass_on : FnScope n_C_pass_on p_C_pass_on (defScope s_C_pass_on) := ⟨rfl, rfl, rfl, by decide +kernel, rfl, by decide +kernel, by decide +kernel⟩
theorem sc_C_forward : FnScope n_C_forward p_C_forward (defScope s_C_forward) := ⟨rfl, rfl, rfl, by decide +kernel, rfl, by decide +kernel, by decide +kernel⟩
theorem sc_C_deliver : FnScope n_C_deliver p_C_deliver (defScope s_C_deliver) := ⟨rfl, rfl, rfl, by decide +kernel, rfl, by decide +kernel, by decide +kernel⟩
theorem sc_C_reset : FnScope n_C_reset p_C_reset (defScope s_C_reset) := ⟨rfl, rfl, rfl, by decide +kernel, rfl, by decide +kernel, by decide +kernel⟩
theorem sc_C_step : FnScope n_C_step p_C_step (defScope s_C_step) := ⟨rfl, rfl, rfl, by decide +kernel, rfl, by decide +kernel, by decide +kernel⟩
theorem sc_messages_of : FnScope n_messages_of p_messages_of (defScope s_messages_of) := ⟨rfl, rfl, rfl, by decide +kernel, rfl, by decide +kernel, by decide +kernel⟩
theorem sc_W_init : FnScope n_W_init p_W_init (defScope s_W_init) := ⟨rfl, rfl, rfl, by decide +kernel, rfl, by decide +kernel, by decide +kernel⟩
theorem sc_W_take : FnScope n_W_take p_W_take (defScope s_W_take) := ⟨rfl, rfl, rfl, by decide +kernel, rfl, by decide +kernel, by decide +kernel⟩
theorem sc_is_integer : FnScope n_is_integer p_is_integer (defScope s_is_integer) := ⟨rfl, rfl, rfl, by decide +kernel, rfl, by decide +kernel, by decide +kernel⟩
theorem sc_number_of : FnScope n_number_of p_number_of (defScope s_number_of) := ⟨rfl, rfl, rfl, by decide +kernel, rfl, by decide +kernel, by decide +kernel⟩
theorem sc_member : FnScope n_member p_member (defScope s_member) := ⟨rfl, rfl, rfl, by decide +kernel, rfl, by decide +kernel, by decide +kernel⟩
theorem sc_side_of : FnScope n_side_of p_side_of (defScope s_side_of) := ⟨rfl, rfl, rfl, by decide +kernel, rfl, by decide +kernel, by decide +kernel⟩
theorem sc_circuits_of : FnScope n_circuits_of p_circuits_of (defScope s_circuits_of) := ⟨rfl, rfl, rfl, by decide +kernel, rfl, by decide +kernel, by decide +kernel⟩
theorem sc_told_packet : FnScope n_told_packet p_told_packet (defScope s_told_packet) := ⟨rfl, rfl, rfl, by decide +kernel, rfl, by decide +kernel, by decide +kernel⟩
theorem sc_told_packets : FnScope n_told_packets p_told_packets (defScope s_told_packets) := ⟨rfl, rfl, rfl, by decide +kernel, rfl, by decide +kernel, by decide +kernel⟩
theorem sc_told_item : FnScope n_told_item p_told_item (defScope s_told_item) := ⟨rfl, rfl, rfl, by decide +kernel, rfl, by decide +kernel, by decide +kernel⟩
theorem sc_told_end : FnScope n_told_end p_told_end (defScope s_told_end) := ⟨rfl, rfl, rfl, by decide +kernel, rfl, by decide +kernel, by decide +kernel⟩
theorem sc_told_link : FnScope n_told_link p_told_link (defScope s_told_link) := ⟨rfl, rfl, rfl, by decide +kernel, rfl, by decide +kernel, by decide +kernel⟩
theorem sc_told_log : FnScope n_told_log p_told_log (defScope s_told_log) := ⟨rfl, rfl, rfl, by decide +kernel, rfl, by decide +kernel, by decide +kernel⟩
theorem sc_told_messages : FnScope n_told_messages p_told_messages (defScope s_told_messages) := ⟨rfl, rfl, rfl, by decide +kernel, rfl, by decide +kernel, by decide +kernel⟩
theorem sc_octet_of : FnScope n_octet_of p_octet_of (defScope s_octet_of) := ⟨rfl, rfl, rfl, by decide +kernel, rfl, by decide +kernel, by decide +kernel⟩
theorem sc_on_terminal : FnScope n_on_terminal p_on_terminal (defScope s_on_terminal) := ⟨rfl, rfl, rfl, by decide +kernel, rfl, by decide +kernel, by decide +kernel⟩
theorem sc_on_circuit : FnScope n_on_circuit p_on_circuit (defScope s_on_circuit) := ⟨rfl, rfl, rfl, by decide +kernel, rfl, by decide +kernel, by decide +kernel⟩
theorem sc_told_step : FnScope n_told_step p_told_step (defScope s_told_step) := ⟨rfl, rfl, rfl, by decide +kernel, rfl, by decide +kernel, by decide +kernel⟩
theorem sc_on_walk : FnScope n_on_walk p_on_walk (defScope s_on_walk) := ⟨rfl, rfl, rfl, by decide +kernel, rfl, by decide +kernel, by decide +kernel⟩
theorem sc_B_init : FnScope n_B_init p_B_init (defScope s_B_init) := ⟨rfl, rfl, rfl, by decide +kernel, rfl, by decide +kernel, by decide +kernel⟩
theorem sc_B_circuit_of : FnScope n_B_circuit_of p_B_circuit_of (defScope s_B_circuit_of) := ⟨rfl, rfl, rfl, by decide +kernel, rfl, by decide +kernel, by decide +kernel⟩
theorem sc_B_restart : FnScope n_B_restart p_B_restart (defScope s_B_restart) := ⟨rfl, rfl, rfl, by decide +kernel, rfl, by decide +kernel, by decide +kernel⟩
theorem sc_B_told_state : FnScope n_B_told_state p_B_told_state (defScope s_B_told_state) := ⟨rfl, rfl, rfl, by decide +kernel, rfl, by decide +kernel, by decide +kernel⟩
theorem sc_B_call : FnScope n_B_call p_B_call (defScope s_B_call) := ⟨rfl, rfl, rfl, by decide +kernel, rfl, by decide +kernel, by decide +kernel⟩
theorem sc_answered : FnScope n_answered p_answered (defScope s_answered) := ⟨rfl, rfl, rfl, by decide +kernel, rfl, by decide +kernel, by decide +kernel⟩
theorem sc_answers : FnScope n_answers p_answers (defScope s_answers) := ⟨rfl, rfl, rfl, by decide +kernel, rfl, by decide +kernel, by decide +kernel⟩
/-- the addresses of the top's defs, classes, written tuples -/
structure Adr where
  f_codes_of : Addr
  f_integer : Addr
  f_text : Addr
  f_truth : Addr
  f_listed : Addr
  f_integers : Addr
  f_record : Addr
  f_low_first : Addr
  f_octets_of : Addr
  f_R_init : Addr
  f_R_number : Addr
  f_R_plain : Addr
  f_R_value : Addr
  f_R_whole : Addr
  f_X_init : Addr
  f_wrong_kind : Addr
  f_out_of_range : Addr
  f_E_init : Addr
  f_E_clear : Addr
  f_E_anew : Addr
  f_E_note : Addr
  f_L_init : Addr
  f_L_put : Addr
  f_L_can_send : Addr
  f_L_send : Addr
  f_L_take : Addr
  f_L_reset : Addr
  f_L_arrive : Addr
  f_C_init : Addr
  f_C_is_quiet : Addr
  f_C_terminal : Addr
  f_C_check_send : Addr
  f_C_send : Addr
  f_C_read : Addr
  f_C_links_at : Addr
  f_C_can_forward : Addr
  f_C_pass_on : Addr
  f_C_forward : Addr
  f_C_deliver : Addr
  f_C_reset : Addr
  f_C_step : Addr
  f_messages_of : Addr
  f_W_init : Addr
  f_W_take : Addr
  f_is_integer : Addr
  f_number_of : Addr
  f_member : Addr
  f_side_of : Addr
  f_circuits_of : Addr
  f_told_packet : Addr
  f_told_packets : Addr
  f_told_item : Addr
  f_told_end : Addr
  f_told_link : Addr
  f_told_log : Addr
  f_told_messages : Addr
  f_octet_of : Addr
  f_on_terminal : Addr
  f_on_circuit : Addr
  f_told_step : Addr
  f_on_walk : Addr
  f_B_init : Addr
  f_B_circuit_of : Addr
  f_B_restart : Addr
  f_B_told_state : Addr
  f_B_call : Addr
  f_answered : Addr
  f_answers : Addr
  c_R : Addr
  c_X : Addr
  c_E : Addr
  c_L : Addr
  c_C : Addr
  c_W : Addr
  c_B : Addr
  t_NOTHING : Addr
  t_NULL : Addr
  t_FALSE : Addr
  t_TRUE : Addr
  t_CREDITS : Addr
  t_PACKETS : Addr
  t_FORWARDS : Addr
  t_SIDES : Addr
structure Txt (K : PySem.W.Frag) (mg : Str → Option Value) (A : Adr) : Prop where
  F_codes_of : FnAt K "codes_of" "codes_of" s_codes_of p_codes_of A.f_codes_of
  g_codes_of : mg "codes_of" = some (.ref A.f_codes_of)
  F_integer : FnAt K "integer" "integer" s_integer p_integer A.f_integer
  g_integer : mg "integer" = some (.ref A.f_integer)
  F_text : FnAt K "text" "text" s_text p_text A.f_text
  g_text : mg "text" = some (.ref A.f_text)
  F_truth : FnAt K "truth" "truth" s_truth p_truth A.f_truth
  g_truth : mg "truth" = some (.ref A.f_truth)
  F_listed : FnAt K "listed" "listed" s_listed p_listed A.f_listed
  g_listed : mg "listed" = some (.ref A.f_listed)
  F_integers : FnAt K "integers" "integers" s_integers p_integers A.f_integers
  g_integers : mg "integers" = some (.ref A.f_integers)
  F_record : FnAt K "record" "record" s_record p_record A.f_record
  g_record : mg "record" = some (.ref A.f_record)
  F_low_first : FnAt K "low_first" "low_first" s_low_first p_low_first A.f_low_first
  g_low_first : mg "low_first" = some (.ref A.f_low_first)
  F_octets_of : FnAt K "octets_of" "octets_of" s_octets_of p_octets_of A.f_octets_of
  g_octets_of : mg "octets_of" = some (.ref A.f_octets_of)
  F_R_init : FnAt K "__init__" "Request.__init__" s_R_init p_R_init A.f_R_init
  F_R_number : FnAt K "number" "Request.number" s_R_number p_R_number A.f_R_number
  m_R_number : Meth K A.c_R "number" A.f_R_number
  F_R_plain : FnAt K "plain" "Request.plain" s_R_plain p_R_plain A.f_R_plain
  m_R_plain : Meth K A.c_R "plain" A.f_R_plain
  F_R_value : FnAt K "value" "Request.value" s_R_value p_R_value A.f_R_value
  m_R_value : Meth K A.c_R "value" A.f_R_value
  F_R_whole : FnAt K "whole" "Request.whole" s_R_whole p_R_whole A.f_R_whole
  m_R_whole : Meth K A.c_R "whole" A.f_R_whole
  F_X_init : FnAt K "__init__" "Refused.__init__" s_X_init p_X_init A.f_X_init
  F_wrong_kind : FnAt K "wrong_kind" "wrong_kind" s_wrong_kind p_wrong_kind A.f_wrong_kind
  g_wrong_kind : mg "wrong_kind" = some (.ref A.f_wrong_kind)
  F_out_of_range : FnAt K "out_of_range" "out_of_range" s_out_of_range p_out_of_range A.f_out_of_range
  g_out_of_range : mg "out_of_range" = some (.ref A.f_out_of_range)
  F_E_init : FnAt K "__init__" "End.__init__" s_E_init p_E_init A.f_E_init
  F_E_clear : FnAt K "clear" "End.clear" s_E_clear p_E_clear A.f_E_clear
  m_E_clear : Meth K A.c_E "clear" A.f_E_clear
  F_E_anew : FnAt K "anew" "End.anew" s_E_anew p_E_anew A.f_E_anew
  m_E_anew : Meth K A.c_E "anew" A.f_E_anew
  F_E_note : FnAt K "note" "End.note" s_E_note p_E_note A.f_E_note
  m_E_note : Meth K A.c_E "note" A.f_E_note
  F_L_init : FnAt K "__init__" "Link.__init__" s_L_init p_L_init A.f_L_init
  F_L_put : FnAt K "put" "Link.put" s_L_put p_L_put A.f_L_put
  m_L_put : Meth K A.c_L "put" A.f_L_put
  F_L_can_send : FnAt K "can_send" "Link.can_send" s_L_can_send p_L_can_send A.f_L_can_send
  m_L_can_send : Meth K A.c_L "can_send" A.f_L_can_send
  F_L_send : FnAt K "send" "Link.send" s_L_send p_L_send A.f_L_send
  m_L_send : Meth K A.c_L "send" A.f_L_send
  F_L_take : FnAt K "take" "Link.take" s_L_take p_L_take A.f_L_take
  m_L_take : Meth K A.c_L "take" A.f_L_take
  F_L_reset : FnAt K "reset" "Link.reset" s_L_reset p_L_reset A.f_L_reset
  m_L_reset : Meth K A.c_L "reset" A.f_L_reset
  F_L_arrive : FnAt K "arrive" "Link.arrive" s_L_arrive p_L_arrive A.f_L_arrive
  m_L_arrive : Meth K A.c_L "arrive" A.f_L_arrive
  F_C_init : FnAt K "__init__" "Circuit.__init__" s_C_init p_C_init A.f_C_init
  F_C_is_quiet : FnAt K "is_quiet" "Circuit.is_quiet" s_C_is_quiet p_C_is_quiet A.f_C_is_quiet
  m_C_is_quiet : Meth K A.c_C "is_quiet" A.f_C_is_quiet
  F_C_terminal : FnAt K "terminal" "Circuit.terminal" s_C_terminal p_C_terminal A.f_C_terminal
  m_C_terminal : Meth K A.c_C "terminal" A.f_C_terminal
  F_C_check_send : FnAt K "check_send" "Circuit.check_send" s_C_check_send p_C_check_send A.f_C_check_send
  m_C_check_send : Meth K A.c_C "check_send" A.f_C_check_send
  F_C_send : FnAt K "send" "Circuit.send" s_C_send p_C_send A.f_C_send
  m_C_send : Meth K A.c_C "send" A.f_C_send
  F_C_read : FnAt K "read" "Circuit.read" s_C_read p_C_read A.f_C_read
  m_C_read : Meth K A.c_C "read" A.f_C_read
  F_C_links_at : FnAt K "links_at" "Circuit.links_at" s_C_links_at p_C_links_at A.f_C_links_at
  m_C_links_at : Meth K A.c_C "links_at" A.f_C_links_at
  F_C_can_forward : FnAt K "can_forward" "Circuit.can_forward" s_C_can_forward p_C_can_forward A.f_C_can_forward
  m_C_can_forward : Meth K A.c_C "can_forward" A.f_C_can_forward
  F_C_pass_on : FnAt K "pass_on" "Circuit.pass_on" s_C_pass_on p_C_pass_on A.f_C_pass_on
  m_C_pass_on : Meth K A.c_C "pass_on" A.f_C_pass_on
  F_C_forward : FnAt K "forward" "Circuit.forward" s_C_forward p_C_forward A.f_C_forward
  m_C_forward : Meth K A.c_C "forward" A.f_C_forward
  F_C_deliver : FnAt K "deliver" "Circuit.deliver" s_C_deliver p_C_deliver A.f_C_deliver
  m_C_deliver : Meth K A.c_C "deliver" A.f_C_deliver
  F_C_reset : FnAt K "reset" "Circuit.reset" s_C_reset p_C_reset A.f_C_reset
  m_C_reset : Meth K A.c_C "reset" A.f_C_reset
  F_C_step : FnAt K "step" "Circuit.step" s_C_step p_C_step A.f_C_step
  m_C_step : Meth K A.c_C "step" A.f_C_step
  F_messages_of : FnAt K "messages_of" "messages_of" s_messages_of p_messages_of A.f_messages_of
  g_messages_of : mg "messages_of" = some (.ref A.f_messages_of)
  F_W_init : FnAt K "__init__" "Walk.__init__" s_W_init p_W_init A.f_W_init
  F_W_take : FnAt K "take" "Walk.take" s_W_take p_W_take A.f_W_take
  m_W_take : Meth K A.c_W "take" A.f_W_take
  F_is_integer : FnAt K "is_integer" "is_integer" s_is_integer p_is_integer A.f_is_integer
  g_is_integer : mg "is_integer" = some (.ref A.f_is_integer)
  F_number_of : FnAt K "number_of" "number_of" s_number_of p_number_of A.f_number_of
  g_number_of : mg "number_of" = some (.ref A.f_number_of)
  F_member : FnAt K "member" "member" s_member p_member A.f_member
  g_member : mg "member" = some (.ref A.f_member)
  F_side_of : FnAt K "side_of" "side_of" s_side_of p_side_of A.f_side_of
  g_side_of : mg "side_of" = some (.ref A.f_side_of)
  F_circuits_of : FnAt K "circuits_of" "circuits_of" s_circuits_of p_circuits_of A.f_circuits_of
  g_circuits_of : mg "circuits_of" = some (.ref A.f_circuits_of)
  F_told_packet : FnAt K "told_packet" "told_packet" s_told_packet p_told_packet A.f_told_packet
  g_told_packet : mg "told_packet" = some (.ref A.f_told_packet)
  F_told_packets : FnAt K "told_packets" "told_packets" s_told_packets p_told_packets A.f_told_packets
  g_told_packets : mg "told_packets" = some (.ref A.f_told_packets)
  F_told_item : FnAt K "told_item" "told_item" s_told_item p_told_item A.f_told_item
  g_told_item : mg "told_item" = some (.ref A.f_told_item)
  F_told_end : FnAt K "told_end" "told_end" s_told_end p_told_end A.f_told_end
  g_told_end : mg "told_end" = some (.ref A.f_told_end)
  F_told_link : FnAt K "told_link" "told_link" s_told_link p_told_link A.f_told_link
  g_told_link : mg "told_link" = some (.ref A.f_told_link)
  F_told_log : FnAt K "told_log" "told_log" s_told_log p_told_log A.f_told_log
  g_told_log : mg "told_log" = some (.ref A.f_told_log)
  F_told_messages : FnAt K "told_messages" "told_messages" s_told_messages p_told_messages A.f_told_messages
  g_told_messages : mg "told_messages" = some (.ref A.f_told_messages)
  F_octet_of : FnAt K "octet_of" "octet_of" s_octet_of p_octet_of A.f_octet_of
  g_octet_of : mg "octet_of" = some (.ref A.f_octet_of)
  F_on_terminal : FnAt K "on_terminal" "on_terminal" s_on_terminal p_on_terminal A.f_on_terminal
  g_on_terminal : mg "on_terminal" = some (.ref A.f_on_terminal)
  F_on_circuit : FnAt K "on_circuit" "on_circuit" s_on_circuit p_on_circuit A.f_on_circuit
  g_on_circuit : mg "on_circuit" = some (.ref A.f_on_circuit)
  F_told_step : FnAt K "told_step" "told_step" s_told_step p_told_step A.f_told_step
  g_told_step : mg "told_step" = some (.ref A.f_told_step)
  F_on_walk : FnAt K "on_walk" "on_walk" s_on_walk p_on_walk A.f_on_walk
  g_on_walk : mg "on_walk" = some (.ref A.f_on_walk)
  F_B_init : FnAt K "__init__" "Library.__init__" s_B_init p_B_init A.f_B_init
  F_B_circuit_of : FnAt K "circuit_of" "Library.circuit_of" s_B_circuit_of p_B_circuit_of A.f_B_circuit_of
  m_B_circuit_of : Meth K A.c_B "circuit_of" A.f_B_circuit_of
  F_B_restart : FnAt K "restart" "Library.restart" s_B_restart p_B_restart A.f_B_restart
  m_B_restart : Meth K A.c_B "restart" A.f_B_restart
  F_B_told_state : FnAt K "told_state" "Library.told_state" s_B_told_state p_B_told_state A.f_B_told_state
  m_B_told_state : Meth K A.c_B "told_state" A.f_B_told_state
  F_B_call : FnAt K "call" "Library.call" s_B_call p_B_call A.f_B_call
  m_B_call : Meth K A.c_B "call" A.f_B_call
  F_answered : FnAt K "answered" "answered" s_answered p_answered A.f_answered
  g_answered : mg "answered" = some (.ref A.f_answered)
  F_answers : FnAt K "answers" "answers" s_answers p_answers A.f_answers
  g_answers : mg "answers" = some (.ref A.f_answers)
  gc_R : mg "Request" = some (.ref A.c_R)
  cl_R : Cls K A.c_R
  mk_R : Mk K A.c_R A.f_R_init
  a_R_octets : NoAttr K A.c_R "octets"
  a_R_at : NoAttr K A.c_R "at"
  gc_X : mg "Refused" = some (.ref A.c_X)
  oex : OexC K A.c_X
  iX : PySem.W.findIn K (.ref A.c_X) "__init__" = some (some (.ref A.f_X_init))
  tX : PySem.W.typeIn K (.ref A.f_X_init) = some (.type "function")
  eX : PySem.W.exmOne K (.ref A.c_X) (.ref A.c_X) = some true
  gaX : PySem.W.findIn K (.ref A.c_X) "__getattribute__" = some (some (.builtin "BaseException.__getattribute__"))
  ggX : PySem.W.findIn K (.ref A.c_X) "__getattr__" = some none
  hdX : PySem.W.hasDictIn K A.c_X = true
  x_order : PySem.W.findIn K (.ref A.c_X) "order" = some none
  x_message : PySem.W.findIn K (.ref A.c_X) "message" = some none
  x_further : PySem.W.findIn K (.ref A.c_X) "further" = some none
  gc_E : mg "End" = some (.ref A.c_E)
  cl_E : Cls K A.c_E
  mk_E : Mk K A.c_E A.f_E_init
  a_E_waits : NoAttr K A.c_E "waits"
  a_E_counts : NoAttr K A.c_E "counts"
  a_E_inboxes : NoAttr K A.c_E "inboxes"
  a_E_resets : NoAttr K A.c_E "resets"
  a_E_sent : NoAttr K A.c_E "sent"
  a_E_got : NoAttr K A.c_E "got"
  gc_L : mg "Link" = some (.ref A.c_L)
  cl_L : Cls K A.c_L
  mk_L : Mk K A.c_L A.f_L_init
  a_L_ends : NoAttr K A.c_L "ends"
  a_L_queues : NoAttr K A.c_L "queues"
  gc_C : mg "Circuit" = some (.ref A.c_C)
  cl_C : Cls K A.c_C
  mk_C : Mk K A.c_C A.f_C_init
  a_C_window : NoAttr K A.c_C "window"
  a_C_links : NoAttr K A.c_C "links"
  gc_W : mg "Walk" = some (.ref A.c_W)
  cl_W : Cls K A.c_W
  mk_W : Mk K A.c_W A.f_W_init
  a_W_circuit : NoAttr K A.c_W "circuit"
  a_W_is_over : NoAttr K A.c_W "is_over"
  gc_B : mg "Library" = some (.ref A.c_B)
  cl_B : Cls K A.c_B
  mk_B : Mk K A.c_B A.f_B_init
  a_B_nets : NoAttr K A.c_B "nets"
  a_B_walks : NoAttr K A.c_B "walks"
  v_NOTHING : mg "NOTHING" = some (.ref A.t_NOTHING)
  w_NOTHING : WrT K A.t_NOTHING [.int 0]
  v_NULL : mg "NULL" = some (.ref A.t_NULL)
  w_NULL : WrT K A.t_NULL [.int 1]
  v_FALSE : mg "FALSE" = some (.ref A.t_FALSE)
  w_FALSE : WrT K A.t_FALSE [.int 2]
  v_TRUE : mg "TRUE" = some (.ref A.t_TRUE)
  w_TRUE : WrT K A.t_TRUE [.int 3]
  v_INTEGER : ∃ u, mg "INTEGER" = some u ∧ RelV (.int 4) u
  v_TEXT : ∃ u, mg "TEXT" = some u ∧ RelV (.int 6) u
  v_LIST : ∃ u, mg "LIST" = some u ∧ RelV (.int 7) u
  v_RECORD : ∃ u, mg "RECORD" = some u ∧ RelV (.int 8) u
  v_OCTETS : ∃ u, mg "OCTETS" = some u ∧ RelV (.int 10) u
  v_WORD : ∃ u, mg "WORD" = some u ∧ RelV (.int 18446744073709551616) u
  v_HALF : ∃ u, mg "HALF" = some u ∧ RelV (.int 9223372036854775808) u
  v_LEFT : ∃ u, mg "LEFT" = some u ∧ RelV (.int 0) u
  v_RIGHT : ∃ u, mg "RIGHT" = some u ∧ RelV (.int 1) u
  v_DATA : ∃ u, mg "DATA" = some u ∧ RelV (.str "data") u
  v_URGENT : ∃ u, mg "URGENT" = some u ∧ RelV (.str "urgent") u
  v_CREDITS : mg "CREDITS" = some (.ref A.t_CREDITS)
  w_CREDITS : WrT K A.t_CREDITS [.str "credit", .str "urgent credit"]
  v_RESET : ∃ u, mg "RESET" = some u ∧ RelV (.str "reset") u
  v_CONFIRM : ∃ u, mg "CONFIRM" = some u ∧ RelV (.str "confirm") u
  v_PACKETS : mg "PACKETS" = some (.ref A.t_PACKETS)
  w_PACKETS : WrT K A.t_PACKETS [.str "data", .str "urgent"]
  v_ORDINARY : ∃ u, mg "ORDINARY" = some u ∧ RelV (.int 0) u
  v_FORWARDS : mg "FORWARDS" = some (.ref A.t_FORWARDS)
  w_FORWARDS : WrT K A.t_FORWARDS [.str "forward", .str "forward urgent"]
  v_MOST_ARGUMENTS : ∃ u, mg "MOST_ARGUMENTS" = some u ∧ RelV (.int 5) u
  v_MOST_VALUE : ∃ u, mg "MOST_VALUE" = some u ∧ RelV (.int 255) u
  v_MOST_RUN : ∃ u, mg "MOST_RUN" = some u ∧ RelV (.int 1000) u
  v_SIDES : mg "SIDES" = some (.ref A.t_SIDES)
  w_SIDES : WrT K A.t_SIDES [.str "left", .str "right"]
  b_len : mg "len" = none
  b_range : mg "range" = none
  b_tuple : mg "tuple" = none
  b_list : mg "list" = none
  b_ord : mg "ord" = none
  b_str : mg "str" = none
  b_all : mg "all" = none
theorem txt_mk {K : PySem.W.Frag} {h : Heap} {mg : Str → Option Value} (X : K.In h) (G : h.Ns mainGlobals mg)
    {f_codes_of f_integer f_text f_truth f_listed f_integers f_record f_low_first f_octets_of f_R_init f_R_number f_R_plain f_R_value f_R_whole f_X_init f_wrong_kind f_out_of_range f_E_init f_E_clear f_E_anew f_E_note f_L_init f_L_put f_L_can_send f_L_send f_L_take f_L_reset f_L_arrive f_C_init f_C_is_quiet f_C_terminal f_C_check_send f_C_send f_C_read f_C_links_at f_C_can_forward f_C_pass_on f_C_forward f_C_deliver f_C_reset f_C_step f_messages_of f_W_init f_W_take f_is_integer f_number_of f_member f_side_of f_circuits_of f_told_packet f_told_packets f_told_item f_told_end f_told_link f_told_log f_told_messages f_octet_of f_on_terminal f_on_circuit f_told_step f_on_walk f_B_init f_B_circuit_of f_B_restart f_B_told_state f_B_call f_answered f_answers c_R c_X c_E c_L c_C c_W c_B t_NOTHING t_NULL t_FALSE t_TRUE t_CREDITS t_PACKETS t_FORWARDS t_SIDES : Addr}
    {od_codes_of an_codes_of od_integer an_integer od_text an_text od_truth an_truth od_listed an_listed od_integers an_integers od_record an_record od_low_first an_low_first od_octets_of an_octets_of od_R_init an_R_init od_R_number an_R_number od_R_plain an_R_plain od_R_value an_R_value od_R_whole an_R_whole od_X_init an_X_init od_wrong_kind an_wrong_kind od_out_of_range an_out_of_range od_E_init an_E_init od_E_clear an_E_clear od_E_anew an_E_anew od_E_note an_E_note od_L_init an_L_init od_L_put an_L_put od_L_can_send an_L_can_send od_L_send an_L_send od_L_take an_L_take od_L_reset an_L_reset od_L_arrive an_L_arrive od_C_init an_C_init od_C_is_quiet an_C_is_quiet od_C_terminal an_C_terminal od_C_check_send an_C_check_send od_C_send an_C_send od_C_read an_C_read od_C_links_at an_C_links_at od_C_can_forward an_C_can_forward od_C_pass_on an_C_pass_on od_C_forward an_C_forward od_C_deliver an_C_deliver od_C_reset an_C_reset od_C_step an_C_step od_messages_of an_messages_of od_W_init an_W_init od_W_take an_W_take od_is_integer an_is_integer od_number_of an_number_of od_member an_member od_side_of an_side_of od_circuits_of an_circuits_of od_told_packet an_told_packet od_told_packets an_told_packets od_told_item an_told_item od_told_end an_told_end od_told_link an_told_link od_told_log an_told_log od_told_messages an_told_messages od_octet_of an_octet_of od_on_terminal an_on_terminal od_on_circuit an_on_circuit od_told_step an_told_step od_on_walk an_on_walk od_B_init an_B_init od_B_circuit_of an_B_circuit_of od_B_restart an_B_restart od_B_told_state an_B_told_state od_B_call an_B_call od_answered an_answered od_answers an_answers : Option Addr}
    {sl_codes_of sl_integer sl_text sl_truth sl_listed sl_integers sl_record sl_low_first sl_octets_of sl_R_init sl_R_number sl_R_plain sl_R_value sl_R_whole sl_X_init sl_wrong_kind sl_out_of_range sl_E_init sl_E_clear sl_E_anew sl_E_note sl_L_init sl_L_put sl_L_can_send sl_L_send sl_L_take sl_L_reset sl_L_arrive sl_C_init sl_C_is_quiet sl_C_terminal sl_C_check_send sl_C_send sl_C_read sl_C_links_at sl_C_can_forward sl_C_pass_on sl_C_forward sl_C_deliver sl_C_reset sl_C_step sl_messages_of sl_W_init sl_W_take sl_is_integer sl_number_of sl_member sl_side_of sl_circuits_of sl_told_packet sl_told_packets sl_told_item sl_told_end sl_told_link sl_told_log sl_told_messages sl_octet_of sl_on_terminal sl_on_circuit sl_told_step sl_on_walk sl_B_init sl_B_circuit_of sl_B_restart sl_B_told_state sl_B_call sl_answered sl_answers : Array (Option Value)}
    {oc_codes_of kV_codes_of dc_codes_of pm_codes_of cd_codes_of ct_codes_of oc_integer kV_integer dc_integer pm_integer cd_integer ct_integer oc_text kV_text dc_text pm_text cd_text ct_text oc_truth kV_truth dc_truth pm_truth cd_truth ct_truth oc_listed kV_listed dc_listed pm_listed cd_listed ct_listed oc_integers kV_integers dc_integers pm_integers cd_integers ct_integers oc_record kV_record dc_record pm_record cd_record ct_record oc_low_first kV_low_first dc_low_first pm_low_first cd_low_first ct_low_first oc_octets_of kV_octets_of dc_octets_of pm_octets_of cd_octets_of ct_octets_of oc_R_init kV_R_init dc_R_init pm_R_init cd_R_init ct_R_init oc_R_number kV_R_number dc_R_number pm_R_number cd_R_number ct_R_number oc_R_plain kV_R_plain dc_R_plain pm_R_plain cd_R_plain ct_R_plain oc_R_value kV_R_value dc_R_value pm_R_value cd_R_value ct_R_value oc_R_whole kV_R_whole dc_R_whole pm_R_whole cd_R_whole ct_R_whole oc_X_init kV_X_init dc_X_init pm_X_init cd_X_init ct_X_init oc_wrong_kind kV_wrong_kind dc_wrong_kind pm_wrong_kind cd_wrong_kind ct_wrong_kind oc_out_of_range kV_out_of_range dc_out_of_range pm_out_of_range cd_out_of_range ct_out_of_range oc_E_init kV_E_init dc_E_init pm_E_init cd_E_init ct_E_init oc_E_clear kV_E_clear dc_E_clear pm_E_clear cd_E_clear ct_E_clear oc_E_anew kV_E_anew dc_E_anew pm_E_anew cd_E_anew ct_E_anew oc_E_note kV_E_note dc_E_note pm_E_note cd_E_note ct_E_note oc_L_init kV_L_init dc_L_init pm_L_init cd_L_init ct_L_init oc_L_put kV_L_put dc_L_put pm_L_put cd_L_put ct_L_put oc_L_can_send kV_L_can_send dc_L_can_send pm_L_can_send cd_L_can_send ct_L_can_send oc_L_send kV_L_send dc_L_send pm_L_send cd_L_send ct_L_send oc_L_take kV_L_take dc_L_take pm_L_take cd_L_take ct_L_take oc_L_reset kV_L_reset dc_L_reset pm_L_reset cd_L_reset ct_L_reset oc_L_arrive kV_L_arrive dc_L_arrive pm_L_arrive cd_L_arrive ct_L_arrive oc_C_init kV_C_init dc_C_init pm_C_init cd_C_init ct_C_init oc_C_is_quiet kV_C_is_quiet dc_C_is_quiet pm_C_is_quiet cd_C_is_quiet ct_C_is_quiet oc_C_terminal kV_C_terminal dc_C_terminal pm_C_terminal cd_C_terminal ct_C_terminal oc_C_check_send kV_C_check_send dc_C_check_send pm_C_check_send cd_C_check_send ct_C_check_send oc_C_send kV_C_send dc_C_send pm_C_send cd_C_send ct_C_send oc_C_read kV_C_read dc_C_read pm_C_read cd_C_read ct_C_read oc_C_links_at kV_C_links_at dc_C_links_at pm_C_links_at cd_C_links_at ct_C_links_at oc_C_can_forward kV_C_can_forward dc_C_can_forward pm_C_can_forward cd_C_can_forward ct_C_can_forward oc_C_pass_on kV_C_pass_on dc_C_pass_on pm_C_pass_on cd_C_pass_on ct_C_pass_on oc_C_forward kV_C_forward dc_C_forward pm_C_forward cd_C_forward ct_C_forward oc_C_deliver kV_C_deliver dc_C_deliver pm_C_deliver cd_C_deliver ct_C_deliver oc_C_reset kV_C_reset dc_C_reset pm_C_reset cd_C_reset ct_C_reset oc_C_step kV_C_step dc_C_step pm_C_step cd_C_step ct_C_step oc_messages_of kV_messages_of dc_messages_of pm_messages_of cd_messages_of ct_messages_of oc_W_init kV_W_init dc_W_init pm_W_init cd_W_init ct_W_init oc_W_take kV_W_take dc_W_take pm_W_take cd_W_take ct_W_take oc_is_integer kV_is_integer dc_is_integer pm_is_integer cd_is_integer ct_is_integer oc_number_of kV_number_of dc_number_of pm_number_of cd_number_of ct_number_of oc_member kV_member dc_member pm_member cd_member ct_member oc_side_of kV_side_of dc_side_of pm_side_of cd_side_of ct_side_of oc_circuits_of kV_circuits_of dc_circuits_of pm_circuits_of cd_circuits_of ct_circuits_of oc_told_packet kV_told_packet dc_told_packet pm_told_packet cd_told_packet ct_told_packet oc_told_packets kV_told_packets dc_told_packets pm_told_packets cd_told_packets ct_told_packets oc_told_item kV_told_item dc_told_item pm_told_item cd_told_item ct_told_item oc_told_end kV_told_end dc_told_end pm_told_end cd_told_end ct_told_end oc_told_link kV_told_link dc_told_link pm_told_link cd_told_link ct_told_link oc_told_log kV_told_log dc_told_log pm_told_log cd_told_log ct_told_log oc_told_messages kV_told_messages dc_told_messages pm_told_messages cd_told_messages ct_told_messages oc_octet_of kV_octet_of dc_octet_of pm_octet_of cd_octet_of ct_octet_of oc_on_terminal kV_on_terminal dc_on_terminal pm_on_terminal cd_on_terminal ct_on_terminal oc_on_circuit kV_on_circuit dc_on_circuit pm_on_circuit cd_on_circuit ct_on_circuit oc_told_step kV_told_step dc_told_step pm_told_step cd_told_step ct_told_step oc_on_walk kV_on_walk dc_on_walk pm_on_walk cd_on_walk ct_on_walk oc_B_init kV_B_init dc_B_init pm_B_init cd_B_init ct_B_init oc_B_circuit_of kV_B_circuit_of dc_B_circuit_of pm_B_circuit_of cd_B_circuit_of ct_B_circuit_of oc_B_restart kV_B_restart dc_B_restart pm_B_restart cd_B_restart ct_B_restart oc_B_told_state kV_B_told_state dc_B_told_state pm_B_told_state cd_B_told_state ct_B_told_state oc_B_call kV_B_call dc_B_call pm_B_call cd_B_call ct_B_call oc_answered kV_answered dc_answered pm_answered cd_answered ct_answered oc_answers kV_answers dc_answers pm_answers cd_answers ct_answers : Value}
    {nmX qX : Str} {NX : Addr} {bsX : List Value} {snX : List Str} {subX : List Value} {abX : Bool} {colX : Option Bool} {ddX : Option Addr} {m0X m1X m2X m3X m5X : Option Value}
    {n_NOTHING n_NULL n_FALSE n_TRUE n_CREDITS n_PACKETS n_FORWARDS n_SIDES : Nat} {sl_NOTHING sl_NULL sl_FALSE sl_TRUE sl_CREDITS sl_PACKETS sl_FORWARDS sl_SIDES : Array (Option Value)}
    {j0_NOTHING j0_NULL j0_FALSE j0_TRUE j0_CREDITS j1_CREDITS j0_PACKETS j1_PACKETS j0_FORWARDS j1_FORWARDS j0_SIDES j1_SIDES j_INTEGER j_TEXT j_LIST j_RECORD j_OCTETS j_WORD j_HALF j_LEFT j_RIGHT j_DATA j_URGENT j_RESET j_CONFIRM j_ORDINARY j_MOST_ARGUMENTS j_MOST_VALUE j_MOST_RUN : Tok}
    (gc_B : PySem.W.nsIn K mainGlobals "Library" = some (some (.ref c_B)))
    (gc_W : PySem.W.nsIn K mainGlobals "Walk" = some (some (.ref c_W)))
    (gc_C : PySem.W.nsIn K mainGlobals "Circuit" = some (some (.ref c_C)))
    (gc_L : PySem.W.nsIn K mainGlobals "Link" = some (some (.ref c_L)))
    (gc_E : PySem.W.nsIn K mainGlobals "End" = some (some (.ref c_E)))
    (gc_X : PySem.W.nsIn K mainGlobals "Refused" = some (some (.ref c_X)))
    (gc_R : PySem.W.nsIn K mainGlobals "Request" = some (some (.ref c_R)))
    (a_codes_of : PySem.W.nsIn K mainGlobals "codes_of" = some (some (.ref f_codes_of)))
    (l_codes_of : K.lookup f_codes_of = some ⟨oc_codes_of, od_codes_of, .func (PySem.W.fnOf "codes_of" "codes_of" (defArgs s_codes_of) (defBody s_codes_of) (defScope s_codes_of) .none kV_codes_of dc_codes_of pm_codes_of an_codes_of cd_codes_of ct_codes_of), sl_codes_of⟩)
    (c_codes_of' : PySem.W.codeIn K cd_codes_of "codes_of" = true)
    (k_codes_of : PySem.W.keepIn K (.ref f_codes_of) = true)
    (a_integer : PySem.W.nsIn K mainGlobals "integer" = some (some (.ref f_integer)))
    (l_integer : K.lookup f_integer = some ⟨oc_integer, od_integer, .func (PySem.W.fnOf "integer" "integer" (defArgs s_integer) (defBody s_integer) (defScope s_integer) .none kV_integer dc_integer pm_integer an_integer cd_integer ct_integer), sl_integer⟩)
    (c_integer' : PySem.W.codeIn K cd_integer "integer" = true)
    (k_integer : PySem.W.keepIn K (.ref f_integer) = true)
    (a_text : PySem.W.nsIn K mainGlobals "text" = some (some (.ref f_text)))
    (l_text : K.lookup f_text = some ⟨oc_text, od_text, .func (PySem.W.fnOf "text" "text" (defArgs s_text) (defBody s_text) (defScope s_text) .none kV_text dc_text pm_text an_text cd_text ct_text), sl_text⟩)
    (c_text' : PySem.W.codeIn K cd_text "text" = true)
    (k_text : PySem.W.keepIn K (.ref f_text) = true)
    (a_truth : PySem.W.nsIn K mainGlobals "truth" = some (some (.ref f_truth)))
    (l_truth : K.lookup f_truth = some ⟨oc_truth, od_truth, .func (PySem.W.fnOf "truth" "truth" (defArgs s_truth) (defBody s_truth) (defScope s_truth) .none kV_truth dc_truth pm_truth an_truth cd_truth ct_truth), sl_truth⟩)
    (c_truth' : PySem.W.codeIn K cd_truth "truth" = true)
    (k_truth : PySem.W.keepIn K (.ref f_truth) = true)
    (a_listed : PySem.W.nsIn K mainGlobals "listed" = some (some (.ref f_listed)))
    (l_listed : K.lookup f_listed = some ⟨oc_listed, od_listed, .func (PySem.W.fnOf "listed" "listed" (defArgs s_listed) (defBody s_listed) (defScope s_listed) .none kV_listed dc_listed pm_listed an_listed cd_listed ct_listed), sl_listed⟩)
    (c_listed' : PySem.W.codeIn K cd_listed "listed" = true)
    (k_listed : PySem.W.keepIn K (.ref f_listed) = true)
    (a_integers : PySem.W.nsIn K mainGlobals "integers" = some (some (.ref f_integers)))
    (l_integers : K.lookup f_integers = some ⟨oc_integers, od_integers, .func (PySem.W.fnOf "integers" "integers" (defArgs s_integers) (defBody s_integers) (defScope s_integers) .none kV_integers dc_integers pm_integers an_integers cd_integers ct_integers), sl_integers⟩)
    (c_integers' : PySem.W.codeIn K cd_integers "integers" = true)
    (k_integers : PySem.W.keepIn K (.ref f_integers) = true)
    (a_record : PySem.W.nsIn K mainGlobals "record" = some (some (.ref f_record)))
    (l_record : K.lookup f_record = some ⟨oc_record, od_record, .func (PySem.W.fnOf "record" "record" (defArgs s_record) (defBody s_record) (defScope s_record) .none kV_record dc_record pm_record an_record cd_record ct_record), sl_record⟩)
    (c_record' : PySem.W.codeIn K cd_record "record" = true)
    (k_record : PySem.W.keepIn K (.ref f_record) = true)
    (a_low_first : PySem.W.nsIn K mainGlobals "low_first" = some (some (.ref f_low_first)))
    (l_low_first : K.lookup f_low_first = some ⟨oc_low_first, od_low_first, .func (PySem.W.fnOf "low_first" "low_first" (defArgs s_low_first) (defBody s_low_first) (defScope s_low_first) .none kV_low_first dc_low_first pm_low_first an_low_first cd_low_first ct_low_first), sl_low_first⟩)
    (c_low_first' : PySem.W.codeIn K cd_low_first "low_first" = true)
    (k_low_first : PySem.W.keepIn K (.ref f_low_first) = true)
    (a_octets_of : PySem.W.nsIn K mainGlobals "octets_of" = some (some (.ref f_octets_of)))
    (l_octets_of : K.lookup f_octets_of = some ⟨oc_octets_of, od_octets_of, .func (PySem.W.fnOf "octets_of" "octets_of" (defArgs s_octets_of) (defBody s_octets_of) (defScope s_octets_of) .none kV_octets_of dc_octets_of pm_octets_of an_octets_of cd_octets_of ct_octets_of), sl_octets_of⟩)
    (c_octets_of' : PySem.W.codeIn K cd_octets_of "octets_of" = true)
    (k_octets_of : PySem.W.keepIn K (.ref f_octets_of) = true)
    (a_R_init : PySem.W.findIn K (.ref c_R) "__init__" = some (some (.ref f_R_init)))
    (i_R_init : PySem.W.isFn K (.ref f_R_init) = true)
    (l_R_init : K.lookup f_R_init = some ⟨oc_R_init, od_R_init, .func (PySem.W.fnOf "__init__" "Request.__init__" (defArgs s_R_init) (defBody s_R_init) (defScope s_R_init) .none kV_R_init dc_R_init pm_R_init an_R_init cd_R_init ct_R_init), sl_R_init⟩)
    (c_R_init' : PySem.W.codeIn K cd_R_init "Request.__init__" = true)
    (k_R_init : PySem.W.keepIn K (.ref f_R_init) = true)
    (a_R_number : PySem.W.findIn K (.ref c_R) "number" = some (some (.ref f_R_number)))
    (i_R_number : PySem.W.isFn K (.ref f_R_number) = true)
    (l_R_number : K.lookup f_R_number = some ⟨oc_R_number, od_R_number, .func (PySem.W.fnOf "number" "Request.number" (defArgs s_R_number) (defBody s_R_number) (defScope s_R_number) .none kV_R_number dc_R_number pm_R_number an_R_number cd_R_number ct_R_number), sl_R_number⟩)
    (c_R_number' : PySem.W.codeIn K cd_R_number "Request.number" = true)
    (k_R_number : PySem.W.keepIn K (.ref f_R_number) = true)
    (a_R_plain : PySem.W.findIn K (.ref c_R) "plain" = some (some (.ref f_R_plain)))
    (i_R_plain : PySem.W.isFn K (.ref f_R_plain) = true)
    (l_R_plain : K.lookup f_R_plain = some ⟨oc_R_plain, od_R_plain, .func (PySem.W.fnOf "plain" "Request.plain" (defArgs s_R_plain) (defBody s_R_plain) (defScope s_R_plain) .none kV_R_plain dc_R_plain pm_R_plain an_R_plain cd_R_plain ct_R_plain), sl_R_plain⟩)
    (c_R_plain' : PySem.W.codeIn K cd_R_plain "Request.plain" = true)
    (k_R_plain : PySem.W.keepIn K (.ref f_R_plain) = true)
    (a_R_value : PySem.W.findIn K (.ref c_R) "value" = some (some (.ref f_R_value)))
    (i_R_value : PySem.W.isFn K (.ref f_R_value) = true)
    (l_R_value : K.lookup f_R_value = some ⟨oc_R_value, od_R_value, .func (PySem.W.fnOf "value" "Request.value" (defArgs s_R_value) (defBody s_R_value) (defScope s_R_value) .none kV_R_value dc_R_value pm_R_value an_R_value cd_R_value ct_R_value), sl_R_value⟩)
    (c_R_value' : PySem.W.codeIn K cd_R_value "Request.value" = true)
    (k_R_value : PySem.W.keepIn K (.ref f_R_value) = true)
    (a_R_whole : PySem.W.findIn K (.ref c_R) "whole" = some (some (.ref f_R_whole)))
    (i_R_whole : PySem.W.isFn K (.ref f_R_whole) = true)
    (l_R_whole : K.lookup f_R_whole = some ⟨oc_R_whole, od_R_whole, .func (PySem.W.fnOf "whole" "Request.whole" (defArgs s_R_whole) (defBody s_R_whole) (defScope s_R_whole) .none kV_R_whole dc_R_whole pm_R_whole an_R_whole cd_R_whole ct_R_whole), sl_R_whole⟩)
    (c_R_whole' : PySem.W.codeIn K cd_R_whole "Request.whole" = true)
    (k_R_whole : PySem.W.keepIn K (.ref f_R_whole) = true)
    (a_X_init : PySem.W.findIn K (.ref c_X) "__init__" = some (some (.ref f_X_init)))
    (i_X_init : PySem.W.isFn K (.ref f_X_init) = true)
    (l_X_init : K.lookup f_X_init = some ⟨oc_X_init, od_X_init, .func (PySem.W.fnOf "__init__" "Refused.__init__" (defArgs s_X_init) (defBody s_X_init) (defScope s_X_init) .none kV_X_init dc_X_init pm_X_init an_X_init cd_X_init ct_X_init), sl_X_init⟩)
    (c_X_init' : PySem.W.codeIn K cd_X_init "Refused.__init__" = true)
    (k_X_init : PySem.W.keepIn K (.ref f_X_init) = true)
    (a_wrong_kind : PySem.W.nsIn K mainGlobals "wrong_kind" = some (some (.ref f_wrong_kind)))
    (l_wrong_kind : K.lookup f_wrong_kind = some ⟨oc_wrong_kind, od_wrong_kind, .func (PySem.W.fnOf "wrong_kind" "wrong_kind" (defArgs s_wrong_kind) (defBody s_wrong_kind) (defScope s_wrong_kind) .none kV_wrong_kind dc_wrong_kind pm_wrong_kind an_wrong_kind cd_wrong_kind ct_wrong_kind), sl_wrong_kind⟩)
    (c_wrong_kind' : PySem.W.codeIn K cd_wrong_kind "wrong_kind" = true)
    (k_wrong_kind : PySem.W.keepIn K (.ref f_wrong_kind) = true)
    (a_out_of_range : PySem.W.nsIn K mainGlobals "out_of_range" = some (some (.ref f_out_of_range)))
    (l_out_of_range : K.lookup f_out_of_range = some ⟨oc_out_of_range, od_out_of_range, .func (PySem.W.fnOf "out_of_range" "out_of_range" (defArgs s_out_of_range) (defBody s_out_of_range) (defScope s_out_of_range) .none kV_out_of_range dc_out_of_range pm_out_of_range an_out_of_range cd_out_of_range ct_out_of_range), sl_out_of_range⟩)
    (c_out_of_range' : PySem.W.codeIn K cd_out_of_range "out_of_range" = true)
    (k_out_of_range : PySem.W.keepIn K (.ref f_out_of_range) = true)
    (a_E_init : PySem.W.findIn K (.ref c_E) "__init__" = some (some (.ref f_E_init)))
    (i_E_init : PySem.W.isFn K (.ref f_E_init) = true)
    (l_E_init : K.lookup f_E_init = some ⟨oc_E_init, od_E_init, .func (PySem.W.fnOf "__init__" "End.__init__" (defArgs s_E_init) (defBody s_E_init) (defScope s_E_init) .none kV_E_init dc_E_init pm_E_init an_E_init cd_E_init ct_E_init), sl_E_init⟩)
    (c_E_init' : PySem.W.codeIn K cd_E_init "End.__init__" = true)
    (k_E_init : PySem.W.keepIn K (.ref f_E_init) = true)
    (a_E_clear : PySem.W.findIn K (.ref c_E) "clear" = some (some (.ref f_E_clear)))
    (i_E_clear : PySem.W.isFn K (.ref f_E_clear) = true)
    (l_E_clear : K.lookup f_E_clear = some ⟨oc_E_clear, od_E_clear, .func (PySem.W.fnOf "clear" "End.clear" (defArgs s_E_clear) (defBody s_E_clear) (defScope s_E_clear) .none kV_E_clear dc_E_clear pm_E_clear an_E_clear cd_E_clear ct_E_clear), sl_E_clear⟩)
    (c_E_clear' : PySem.W.codeIn K cd_E_clear "End.clear" = true)
    (k_E_clear : PySem.W.keepIn K (.ref f_E_clear) = true)
    (a_E_anew : PySem.W.findIn K (.ref c_E) "anew" = some (some (.ref f_E_anew)))
    (i_E_anew : PySem.W.isFn K (.ref f_E_anew) = true)
    (l_E_anew : K.lookup f_E_anew = some ⟨oc_E_anew, od_E_anew, .func (PySem.W.fnOf "anew" "End.anew" (defArgs s_E_anew) (defBody s_E_anew) (defScope s_E_anew) .none kV_E_anew dc_E_anew pm_E_anew an_E_anew cd_E_anew ct_E_anew), sl_E_anew⟩)
    (c_E_anew' : PySem.W.codeIn K cd_E_anew "End.anew" = true)
    (k_E_anew : PySem.W.keepIn K (.ref f_E_anew) = true)
    (a_E_note : PySem.W.findIn K (.ref c_E) "note" = some (some (.ref f_E_note)))
    (i_E_note : PySem.W.isFn K (.ref f_E_note) = true)
    (l_E_note : K.lookup f_E_note = some ⟨oc_E_note, od_E_note, .func (PySem.W.fnOf "note" "End.note" (defArgs s_E_note) (defBody s_E_note) (defScope s_E_note) .none kV_E_note dc_E_note pm_E_note an_E_note cd_E_note ct_E_note), sl_E_note⟩)
    (c_E_note' : PySem.W.codeIn K cd_E_note "End.note" = true)
    (k_E_note : PySem.W.keepIn K (.ref f_E_note) = true)
    (a_L_init : PySem.W.findIn K (.ref c_L) "__init__" = some (some (.ref f_L_init)))
    (i_L_init : PySem.W.isFn K (.ref f_L_init) = true)
    (l_L_init : K.lookup f_L_init = some ⟨oc_L_init, od_L_init, .func (PySem.W.fnOf "__init__" "Link.__init__" (defArgs s_L_init) (defBody s_L_init) (defScope s_L_init) .none kV_L_init dc_L_init pm_L_init an_L_init cd_L_init ct_L_init), sl_L_init⟩)
    (c_L_init' : PySem.W.codeIn K cd_L_init "Link.__init__" = true)
    (k_L_init : PySem.W.keepIn K (.ref f_L_init) = true)
    (a_L_put : PySem.W.findIn K (.ref c_L) "put" = some (some (.ref f_L_put)))
    (i_L_put : PySem.W.isFn K (.ref f_L_put) = true)
    (l_L_put : K.lookup f_L_put = some ⟨oc_L_put, od_L_put, .func (PySem.W.fnOf "put" "Link.put" (defArgs s_L_put) (defBody s_L_put) (defScope s_L_put) .none kV_L_put dc_L_put pm_L_put an_L_put cd_L_put ct_L_put), sl_L_put⟩)
    (c_L_put' : PySem.W.codeIn K cd_L_put "Link.put" = true)
    (k_L_put : PySem.W.keepIn K (.ref f_L_put) = true)
    (a_L_can_send : PySem.W.findIn K (.ref c_L) "can_send" = some (some (.ref f_L_can_send)))
    (i_L_can_send : PySem.W.isFn K (.ref f_L_can_send) = true)
    (l_L_can_send : K.lookup f_L_can_send = some ⟨oc_L_can_send, od_L_can_send, .func (PySem.W.fnOf "can_send" "Link.can_send" (defArgs s_L_can_send) (defBody s_L_can_send) (defScope s_L_can_send) .none kV_L_can_send dc_L_can_send pm_L_can_send an_L_can_send cd_L_can_send ct_L_can_send), sl_L_can_send⟩)
    (c_L_can_send' : PySem.W.codeIn K cd_L_can_send "Link.can_send" = true)
    (k_L_can_send : PySem.W.keepIn K (.ref f_L_can_send) = true)
    (a_L_send : PySem.W.findIn K (.ref c_L) "send" = some (some (.ref f_L_send)))
    (i_L_send : PySem.W.isFn K (.ref f_L_send) = true)
    (l_L_send : K.lookup f_L_send = some ⟨oc_L_send, od_L_send, .func (PySem.W.fnOf "send" "Link.send" (defArgs s_L_send) (defBody s_L_send) (defScope s_L_send) .none kV_L_send dc_L_send pm_L_send an_L_send cd_L_send ct_L_send), sl_L_send⟩)
    (c_L_send' : PySem.W.codeIn K cd_L_send "Link.send" = true)
    (k_L_send : PySem.W.keepIn K (.ref f_L_send) = true)
    (a_L_take : PySem.W.findIn K (.ref c_L) "take" = some (some (.ref f_L_take)))
    (i_L_take : PySem.W.isFn K (.ref f_L_take) = true)
    (l_L_take : K.lookup f_L_take = some ⟨oc_L_take, od_L_take, .func (PySem.W.fnOf "take" "Link.take" (defArgs s_L_take) (defBody s_L_take) (defScope s_L_take) .none kV_L_take dc_L_take pm_L_take an_L_take cd_L_take ct_L_take), sl_L_take⟩)
    (c_L_take' : PySem.W.codeIn K cd_L_take "Link.take" = true)
    (k_L_take : PySem.W.keepIn K (.ref f_L_take) = true)
    (a_L_reset : PySem.W.findIn K (.ref c_L) "reset" = some (some (.ref f_L_reset)))
    (i_L_reset : PySem.W.isFn K (.ref f_L_reset) = true)
    (l_L_reset : K.lookup f_L_reset = some ⟨oc_L_reset, od_L_reset, .func (PySem.W.fnOf "reset" "Link.reset" (defArgs s_L_reset) (defBody s_L_reset) (defScope s_L_reset) .none kV_L_reset dc_L_reset pm_L_reset an_L_reset cd_L_reset ct_L_reset), sl_L_reset⟩)
    (c_L_reset' : PySem.W.codeIn K cd_L_reset "Link.reset" = true)
    (k_L_reset : PySem.W.keepIn K (.ref f_L_reset) = true)
    (a_L_arrive : PySem.W.findIn K (.ref c_L) "arrive" = some (some (.ref f_L_arrive)))
    (i_L_arrive : PySem.W.isFn K (.ref f_L_arrive) = true)
    (l_L_arrive : K.lookup f_L_arrive = some ⟨oc_L_arrive, od_L_arrive, .func (PySem.W.fnOf "arrive" "Link.arrive" (defArgs s_L_arrive) (defBody s_L_arrive) (defScope s_L_arrive) .none kV_L_arrive dc_L_arrive pm_L_arrive an_L_arrive cd_L_arrive ct_L_arrive), sl_L_arrive⟩)
    (c_L_arrive' : PySem.W.codeIn K cd_L_arrive "Link.arrive" = true)
    (k_L_arrive : PySem.W.keepIn K (.ref f_L_arrive) = true)
    (a_C_init : PySem.W.findIn K (.ref c_C) "__init__" = some (some (.ref f_C_init)))
    (i_C_init : PySem.W.isFn K (.ref f_C_init) = true)
    (l_C_init : K.lookup f_C_init = some ⟨oc_C_init, od_C_init, .func (PySem.W.fnOf "__init__" "Circuit.__init__" (defArgs s_C_init) (defBody s_C_init) (defScope s_C_init) .none kV_C_init dc_C_init pm_C_init an_C_init cd_C_init ct_C_init), sl_C_init⟩)
    (c_C_init' : PySem.W.codeIn K cd_C_init "Circuit.__init__" = true)
    (k_C_init : PySem.W.keepIn K (.ref f_C_init) = true)
    (a_C_is_quiet : PySem.W.findIn K (.ref c_C) "is_quiet" = some (some (.ref f_C_is_quiet)))
    (i_C_is_quiet : PySem.W.isFn K (.ref f_C_is_quiet) = true)
    (l_C_is_quiet : K.lookup f_C_is_quiet = some ⟨oc_C_is_quiet, od_C_is_quiet, .func (PySem.W.fnOf "is_quiet" "Circuit.is_quiet" (defArgs s_C_is_quiet) (defBody s_C_is_quiet) (defScope s_C_is_quiet) .none kV_C_is_quiet dc_C_is_quiet pm_C_is_quiet an_C_is_quiet cd_C_is_quiet ct_C_is_quiet), sl_C_is_quiet⟩)
    (c_C_is_quiet' : PySem.W.codeIn K cd_C_is_quiet "Circuit.is_quiet" = true)
    (k_C_is_quiet : PySem.W.keepIn K (.ref f_C_is_quiet) = true)
    (a_C_terminal : PySem.W.findIn K (.ref c_C) "terminal" = some (some (.ref f_C_terminal)))
    (i_C_terminal : PySem.W.isFn K (.ref f_C_terminal) = true)
    (l_C_terminal : K.lookup f_C_terminal = some ⟨oc_C_terminal, od_C_terminal, .func (PySem.W.fnOf "terminal" "Circuit.terminal" (defArgs s_C_terminal) (defBody s_C_terminal) (defScope s_C_terminal) .none kV_C_terminal dc_C_terminal pm_C_terminal an_C_terminal cd_C_terminal ct_C_terminal), sl_C_terminal⟩)
    (c_C_terminal' : PySem.W.codeIn K cd_C_terminal "Circuit.terminal" = true)
    (k_C_terminal : PySem.W.keepIn K (.ref f_C_terminal) = true)
    (a_C_check_send : PySem.W.findIn K (.ref c_C) "check_send" = some (some (.ref f_C_check_send)))
    (i_C_check_send : PySem.W.isFn K (.ref f_C_check_send) = true)
    (l_C_check_send : K.lookup f_C_check_send = some ⟨oc_C_check_send, od_C_check_send, .func (PySem.W.fnOf "check_send" "Circuit.check_send" (defArgs s_C_check_send) (defBody s_C_check_send) (defScope s_C_check_send) .none kV_C_check_send dc_C_check_send pm_C_check_send an_C_check_send cd_C_check_send ct_C_check_send), sl_C_check_send⟩)
    (c_C_check_send' : PySem.W.codeIn K cd_C_check_send "Circuit.check_send" = true)
    (k_C_check_send : PySem.W.keepIn K (.ref f_C_check_send) = true)
    (a_C_send : PySem.W.findIn K (.ref c_C) "send" = some (some (.ref f_C_send)))
    (i_C_send : PySem.W.isFn K (.ref f_C_send) = true)
    (l_C_send : K.lookup f_C_send = some ⟨oc_C_send, od_C_send, .func (PySem.W.fnOf "send" "Circuit.send" (defArgs s_C_send) (defBody s_C_send) (defScope s_C_send) .none kV_C_send dc_C_send pm_C_send an_C_send cd_C_send ct_C_send), sl_C_send⟩)
    (c_C_send' : PySem.W.codeIn K cd_C_send "Circuit.send" = true)
    (k_C_send : PySem.W.keepIn K (.ref f_C_send) = true)
    (a_C_read : PySem.W.findIn K (.ref c_C) "read" = some (some (.ref f_C_read)))
    (i_C_read : PySem.W.isFn K (.ref f_C_read) = true)
    (l_C_read : K.lookup f_C_read = some ⟨oc_C_read, od_C_read, .func (PySem.W.fnOf "read" "Circuit.read" (defArgs s_C_read) (defBody s_C_read) (defScope s_C_read) .none kV_C_read dc_C_read pm_C_read an_C_read cd_C_read ct_C_read), sl_C_read⟩)
    (c_C_read' : PySem.W.codeIn K cd_C_read "Circuit.read" = true)
    (k_C_read : PySem.W.keepIn K (.ref f_C_read) = true)
    (a_C_links_at : PySem.W.findIn K (.ref c_C) "links_at" = some (some (.ref f_C_links_at)))
    (i_C_links_at : PySem.W.isFn K (.ref f_C_links_at) = true)
    (l_C_links_at : K.lookup f_C_links_at = some ⟨oc_C_links_at, od_C_links_at, .func (PySem.W.fnOf "links_at" "Circuit.links_at" (defArgs s_C_links_at) (defBody s_C_links_at) (defScope s_C_links_at) .none kV_C_links_at dc_C_links_at pm_C_links_at an_C_links_at cd_C_links_at ct_C_links_at), sl_C_links_at⟩)
    (c_C_links_at' : PySem.W.codeIn K cd_C_links_at "Circuit.links_at" = true)
    (k_C_links_at : PySem.W.keepIn K (.ref f_C_links_at) = true)
    (a_C_can_forward : PySem.W.findIn K (.ref c_C) "can_forward" = some (some (.ref f_C_can_forward)))
    (i_C_can_forward : PySem.W.isFn K (.ref f_C_can_forward) = true)
    (l_C_can_forward : K.lookup f_C_can_forward = some ⟨oc_C_can_forward, od_C_can_forward, .func (PySem.W.fnOf "can_forward" "Circuit.can_forward" (defArgs s_C_can_forward) (defBody s_C_can_forward) (defScope s_C_can_forward) .none kV_C_can_forward dc_C_can_forward pm_C_can_forward an_C_can_forward cd_C_can_forward ct_C_can_forward), sl_C_can_forward⟩)
    (c_C_can_forward' : PySem.W.codeIn K cd_C_can_forward "Circuit.can_forward" = true)
    (k_C_can_forward : PySem.W.keepIn K (.ref f_C_can_forward) = true)
    (a_C_pass_on : PySem.W.findIn K (.ref c_C) "pass_on" = some (some (.ref f_C_pass_on)))
    (i_C_pass_on : PySem.W.isFn K (.ref f_C_pass_on) = true)
    (l_C_pass_on : K.lookup f_C_pass_on = some ⟨oc_C_pass_on, od_C_pass_on, .func (PySem.W.fnOf "pass_on" "Circuit.pass_on" (defArgs s_C_pass_on) (defBody s_C_pass_on) (defScope s_C_pass_on) .none kV_C_pass_on dc_C_pass_on pm_C_pass_on an_C_pass_on cd_C_pass_on ct_C_pass_on), sl_C_pass_on⟩)
    (c_C_pass_on' : PySem.W.codeIn K cd_C_pass_on "Circuit.pass_on" = true)
    (k_C_pass_on : PySem.W.keepIn K (.ref f_C_pass_on) = true)
    (a_C_forward : PySem.W.findIn K (.ref c_C) "forward" = some (some (.ref f_C_forward)))
    (i_C_forward : PySem.W.isFn K (.ref f_C_forward) = true)
    (l_C_forward : K.lookup f_C_forward = some ⟨oc_C_forward, od_C_forward, .func (PySem.W.fnOf "forward" "Circuit.forward" (defArgs s_C_forward) (defBody s_C_forward) (defScope s_C_forward) .none kV_C_forward dc_C_forward pm_C_forward an_C_forward cd_C_forward ct_C_forward), sl_C_forward⟩)
    (c_C_forward' : PySem.W.codeIn K cd_C_forward "Circuit.forward" = true)
    (k_C_forward : PySem.W.keepIn K (.ref f_C_forward) = true)
    (a_C_deliver : PySem.W.findIn K (.ref c_C) "deliver" = some (some (.ref f_C_deliver)))
    (i_C_deliver : PySem.W.isFn K (.ref f_C_deliver) = true)
    (l_C_deliver : K.lookup f_C_deliver = some ⟨oc_C_deliver, od_C_deliver, .func (PySem.W.fnOf "deliver" "Circuit.deliver" (defArgs s_C_deliver) (defBody s_C_deliver) (defScope s_C_deliver) .none kV_C_deliver dc_C_deliver pm_C_deliver an_C_deliver cd_C_deliver ct_C_deliver), sl_C_deliver⟩)
    (c_C_deliver' : PySem.W.codeIn K cd_C_deliver "Circuit.deliver" = true)
    (k_C_deliver : PySem.W.keepIn K (.ref f_C_deliver) = true)
    (a_C_reset : PySem.W.findIn K (.ref c_C) "reset" = some (some (.ref f_C_reset)))
    (i_C_reset : PySem.W.isFn K (.ref f_C_reset) = true)
    (l_C_reset : K.lookup f_C_reset = some ⟨oc_C_reset, od_C_reset, .func (PySem.W.fnOf "reset" "Circuit.reset" (defArgs s_C_reset) (defBody s_C_reset) (defScope s_C_reset) .none kV_C_reset dc_C_reset pm_C_reset an_C_reset cd_C_reset ct_C_reset), sl_C_reset⟩)
    (c_C_reset' : PySem.W.codeIn K cd_C_reset "Circuit.reset" = true)
    (k_C_reset : PySem.W.keepIn K (.ref f_C_reset) = true)
    (a_C_step : PySem.W.findIn K (.ref c_C) "step" = some (some (.ref f_C_step)))
    (i_C_step : PySem.W.isFn K (.ref f_C_step) = true)
    (l_C_step : K.lookup f_C_step = some ⟨oc_C_step, od_C_step, .func (PySem.W.fnOf "step" "Circuit.step" (defArgs s_C_step) (defBody s_C_step) (defScope s_C_step) .none kV_C_step dc_C_step pm_C_step an_C_step cd_C_step ct_C_step), sl_C_step⟩)
    (c_C_step' : PySem.W.codeIn K cd_C_step "Circuit.step" = true)
    (k_C_step : PySem.W.keepIn K (.ref f_C_step) = true)
    (a_messages_of : PySem.W.nsIn K mainGlobals "messages_of" = some (some (.ref f_messages_of)))
    (l_messages_of : K.lookup f_messages_of = some ⟨oc_messages_of, od_messages_of, .func (PySem.W.fnOf "messages_of" "messages_of" (defArgs s_messages_of) (defBody s_messages_of) (defScope s_messages_of) .none kV_messages_of dc_messages_of pm_messages_of an_messages_of cd_messages_of ct_messages_of), sl_messages_of⟩)
    (c_messages_of' : PySem.W.codeIn K cd_messages_of "messages_of" = true)
    (k_messages_of : PySem.W.keepIn K (.ref f_messages_of) = true)
    (a_W_init : PySem.W.findIn K (.ref c_W) "__init__" = some (some (.ref f_W_init)))
    (i_W_init : PySem.W.isFn K (.ref f_W_init) = true)
    (l_W_init : K.lookup f_W_init = some ⟨oc_W_init, od_W_init, .func (PySem.W.fnOf "__init__" "Walk.__init__" (defArgs s_W_init) (defBody s_W_init) (defScope s_W_init) .none kV_W_init dc_W_init pm_W_init an_W_init cd_W_init ct_W_init), sl_W_init⟩)
    (c_W_init' : PySem.W.codeIn K cd_W_init "Walk.__init__" = true)
    (k_W_init : PySem.W.keepIn K (.ref f_W_init) = true)
    (a_W_take : PySem.W.findIn K (.ref c_W) "take" = some (some (.ref f_W_take)))
    (i_W_take : PySem.W.isFn K (.ref f_W_take) = true)
    (l_W_take : K.lookup f_W_take = some ⟨oc_W_take, od_W_take, .func (PySem.W.fnOf "take" "Walk.take" (defArgs s_W_take) (defBody s_W_take) (defScope s_W_take) .none kV_W_take dc_W_take pm_W_take an_W_take cd_W_take ct_W_take), sl_W_take⟩)
    (c_W_take' : PySem.W.codeIn K cd_W_take "Walk.take" = true)
    (k_W_take : PySem.W.keepIn K (.ref f_W_take) = true)
    (a_is_integer : PySem.W.nsIn K mainGlobals "is_integer" = some (some (.ref f_is_integer)))
    (l_is_integer : K.lookup f_is_integer = some ⟨oc_is_integer, od_is_integer, .func (PySem.W.fnOf "is_integer" "is_integer" (defArgs s_is_integer) (defBody s_is_integer) (defScope s_is_integer) .none kV_is_integer dc_is_integer pm_is_integer an_is_integer cd_is_integer ct_is_integer), sl_is_integer⟩)
    (c_is_integer' : PySem.W.codeIn K cd_is_integer "is_integer" = true)
    (k_is_integer : PySem.W.keepIn K (.ref f_is_integer) = true)
    (a_number_of : PySem.W.nsIn K mainGlobals "number_of" = some (some (.ref f_number_of)))
    (l_number_of : K.lookup f_number_of = some ⟨oc_number_of, od_number_of, .func (PySem.W.fnOf "number_of" "number_of" (defArgs s_number_of) (defBody s_number_of) (defScope s_number_of) .none kV_number_of dc_number_of pm_number_of an_number_of cd_number_of ct_number_of), sl_number_of⟩)
    (c_number_of' : PySem.W.codeIn K cd_number_of "number_of" = true)
    (k_number_of : PySem.W.keepIn K (.ref f_number_of) = true)
    (a_member : PySem.W.nsIn K mainGlobals "member" = some (some (.ref f_member)))
    (l_member : K.lookup f_member = some ⟨oc_member, od_member, .func (PySem.W.fnOf "member" "member" (defArgs s_member) (defBody s_member) (defScope s_member) .none kV_member dc_member pm_member an_member cd_member ct_member), sl_member⟩)
    (c_member' : PySem.W.codeIn K cd_member "member" = true)
    (k_member : PySem.W.keepIn K (.ref f_member) = true)
    (a_side_of : PySem.W.nsIn K mainGlobals "side_of" = some (some (.ref f_side_of)))
    (l_side_of : K.lookup f_side_of = some ⟨oc_side_of, od_side_of, .func (PySem.W.fnOf "side_of" "side_of" (defArgs s_side_of) (defBody s_side_of) (defScope s_side_of) .none kV_side_of dc_side_of pm_side_of an_side_of cd_side_of ct_side_of), sl_side_of⟩)
    (c_side_of' : PySem.W.codeIn K cd_side_of "side_of" = true)
    (k_side_of : PySem.W.keepIn K (.ref f_side_of) = true)
    (a_circuits_of : PySem.W.nsIn K mainGlobals "circuits_of" = some (some (.ref f_circuits_of)))
    (l_circuits_of : K.lookup f_circuits_of = some ⟨oc_circuits_of, od_circuits_of, .func (PySem.W.fnOf "circuits_of" "circuits_of" (defArgs s_circuits_of) (defBody s_circuits_of) (defScope s_circuits_of) .none kV_circuits_of dc_circuits_of pm_circuits_of an_circuits_of cd_circuits_of ct_circuits_of), sl_circuits_of⟩)
    (c_circuits_of' : PySem.W.codeIn K cd_circuits_of "circuits_of" = true)
    (k_circuits_of : PySem.W.keepIn K (.ref f_circuits_of) = true)
    (a_told_packet : PySem.W.nsIn K mainGlobals "told_packet" = some (some (.ref f_told_packet)))
    (l_told_packet : K.lookup f_told_packet = some ⟨oc_told_packet, od_told_packet, .func (PySem.W.fnOf "told_packet" "told_packet" (defArgs s_told_packet) (defBody s_told_packet) (defScope s_told_packet) .none kV_told_packet dc_told_packet pm_told_packet an_told_packet cd_told_packet ct_told_packet), sl_told_packet⟩)
    (c_told_packet' : PySem.W.codeIn K cd_told_packet "told_packet" = true)
    (k_told_packet : PySem.W.keepIn K (.ref f_told_packet) = true)
    (a_told_packets : PySem.W.nsIn K mainGlobals "told_packets" = some (some (.ref f_told_packets)))
    (l_told_packets : K.lookup f_told_packets = some ⟨oc_told_packets, od_told_packets, .func (PySem.W.fnOf "told_packets" "told_packets" (defArgs s_told_packets) (defBody s_told_packets) (defScope s_told_packets) .none kV_told_packets dc_told_packets pm_told_packets an_told_packets cd_told_packets ct_told_packets), sl_told_packets⟩)
    (c_told_packets' : PySem.W.codeIn K cd_told_packets "told_packets" = true)
    (k_told_packets : PySem.W.keepIn K (.ref f_told_packets) = true)
    (a_told_item : PySem.W.nsIn K mainGlobals "told_item" = some (some (.ref f_told_item)))
    (l_told_item : K.lookup f_told_item = some ⟨oc_told_item, od_told_item, .func (PySem.W.fnOf "told_item" "told_item" (defArgs s_told_item) (defBody s_told_item) (defScope s_told_item) .none kV_told_item dc_told_item pm_told_item an_told_item cd_told_item ct_told_item), sl_told_item⟩)
    (c_told_item' : PySem.W.codeIn K cd_told_item "told_item" = true)
    (k_told_item : PySem.W.keepIn K (.ref f_told_item) = true)
    (a_told_end : PySem.W.nsIn K mainGlobals "told_end" = some (some (.ref f_told_end)))
    (l_told_end : K.lookup f_told_end = some ⟨oc_told_end, od_told_end, .func (PySem.W.fnOf "told_end" "told_end" (defArgs s_told_end) (defBody s_told_end) (defScope s_told_end) .none kV_told_end dc_told_end pm_told_end an_told_end cd_told_end ct_told_end), sl_told_end⟩)
    (c_told_end' : PySem.W.codeIn K cd_told_end "told_end" = true)
    (k_told_end : PySem.W.keepIn K (.ref f_told_end) = true)
    (a_told_link : PySem.W.nsIn K mainGlobals "told_link" = some (some (.ref f_told_link)))
    (l_told_link : K.lookup f_told_link = some ⟨oc_told_link, od_told_link, .func (PySem.W.fnOf "told_link" "told_link" (defArgs s_told_link) (defBody s_told_link) (defScope s_told_link) .none kV_told_link dc_told_link pm_told_link an_told_link cd_told_link ct_told_link), sl_told_link⟩)
    (c_told_link' : PySem.W.codeIn K cd_told_link "told_link" = true)
    (k_told_link : PySem.W.keepIn K (.ref f_told_link) = true)
    (a_told_log : PySem.W.nsIn K mainGlobals "told_log" = some (some (.ref f_told_log)))
    (l_told_log : K.lookup f_told_log = some ⟨oc_told_log, od_told_log, .func (PySem.W.fnOf "told_log" "told_log" (defArgs s_told_log) (defBody s_told_log) (defScope s_told_log) .none kV_told_log dc_told_log pm_told_log an_told_log cd_told_log ct_told_log), sl_told_log⟩)
    (c_told_log' : PySem.W.codeIn K cd_told_log "told_log" = true)
    (k_told_log : PySem.W.keepIn K (.ref f_told_log) = true)
    (a_told_messages : PySem.W.nsIn K mainGlobals "told_messages" = some (some (.ref f_told_messages)))
    (l_told_messages : K.lookup f_told_messages = some ⟨oc_told_messages, od_told_messages, .func (PySem.W.fnOf "told_messages" "told_messages" (defArgs s_told_messages) (defBody s_told_messages) (defScope s_told_messages) .none kV_told_messages dc_told_messages pm_told_messages an_told_messages cd_told_messages ct_told_messages), sl_told_messages⟩)
    (c_told_messages' : PySem.W.codeIn K cd_told_messages "told_messages" = true)
    (k_told_messages : PySem.W.keepIn K (.ref f_told_messages) = true)
    (a_octet_of : PySem.W.nsIn K mainGlobals "octet_of" = some (some (.ref f_octet_of)))
    (l_octet_of : K.lookup f_octet_of = some ⟨oc_octet_of, od_octet_of, .func (PySem.W.fnOf "octet_of" "octet_of" (defArgs s_octet_of) (defBody s_octet_of) (defScope s_octet_of) .none kV_octet_of dc_octet_of pm_octet_of an_octet_of cd_octet_of ct_octet_of), sl_octet_of⟩)
    (c_octet_of' : PySem.W.codeIn K cd_octet_of "octet_of" = true)
    (k_octet_of : PySem.W.keepIn K (.ref f_octet_of) = true)
    (a_on_terminal : PySem.W.nsIn K mainGlobals "on_terminal" = some (some (.ref f_on_terminal)))
    (l_on_terminal : K.lookup f_on_terminal = some ⟨oc_on_terminal, od_on_terminal, .func (PySem.W.fnOf "on_terminal" "on_terminal" (defArgs s_on_terminal) (defBody s_on_terminal) (defScope s_on_terminal) .none kV_on_terminal dc_on_terminal pm_on_terminal an_on_terminal cd_on_terminal ct_on_terminal), sl_on_terminal⟩)
    (c_on_terminal' : PySem.W.codeIn K cd_on_terminal "on_terminal" = true)
    (k_on_terminal : PySem.W.keepIn K (.ref f_on_terminal) = true)
    (a_on_circuit : PySem.W.nsIn K mainGlobals "on_circuit" = some (some (.ref f_on_circuit)))
    (l_on_circuit : K.lookup f_on_circuit = some ⟨oc_on_circuit, od_on_circuit, .func (PySem.W.fnOf "on_circuit" "on_circuit" (defArgs s_on_circuit) (defBody s_on_circuit) (defScope s_on_circuit) .none kV_on_circuit dc_on_circuit pm_on_circuit an_on_circuit cd_on_circuit ct_on_circuit), sl_on_circuit⟩)
    (c_on_circuit' : PySem.W.codeIn K cd_on_circuit "on_circuit" = true)
    (k_on_circuit : PySem.W.keepIn K (.ref f_on_circuit) = true)
    (a_told_step : PySem.W.nsIn K mainGlobals "told_step" = some (some (.ref f_told_step)))
    (l_told_step : K.lookup f_told_step = some ⟨oc_told_step, od_told_step, .func (PySem.W.fnOf "told_step" "told_step" (defArgs s_told_step) (defBody s_told_step) (defScope s_told_step) .none kV_told_step dc_told_step pm_told_step an_told_step cd_told_step ct_told_step), sl_told_step⟩)
    (c_told_step' : PySem.W.codeIn K cd_told_step "told_step" = true)
    (k_told_step : PySem.W.keepIn K (.ref f_told_step) = true)
    (a_on_walk : PySem.W.nsIn K mainGlobals "on_walk" = some (some (.ref f_on_walk)))
    (l_on_walk : K.lookup f_on_walk = some ⟨oc_on_walk, od_on_walk, .func (PySem.W.fnOf "on_walk" "on_walk" (defArgs s_on_walk) (defBody s_on_walk) (defScope s_on_walk) .none kV_on_walk dc_on_walk pm_on_walk an_on_walk cd_on_walk ct_on_walk), sl_on_walk⟩)
    (c_on_walk' : PySem.W.codeIn K cd_on_walk "on_walk" = true)
    (k_on_walk : PySem.W.keepIn K (.ref f_on_walk) = true)
    (a_B_init : PySem.W.findIn K (.ref c_B) "__init__" = some (some (.ref f_B_init)))
    (i_B_init : PySem.W.isFn K (.ref f_B_init) = true)
    (l_B_init : K.lookup f_B_init = some ⟨oc_B_init, od_B_init, .func (PySem.W.fnOf "__init__" "Library.__init__" (defArgs s_B_init) (defBody s_B_init) (defScope s_B_init) .none kV_B_init dc_B_init pm_B_init an_B_init cd_B_init ct_B_init), sl_B_init⟩)
    (c_B_init' : PySem.W.codeIn K cd_B_init "Library.__init__" = true)
    (k_B_init : PySem.W.keepIn K (.ref f_B_init) = true)
    (a_B_circuit_of : PySem.W.findIn K (.ref c_B) "circuit_of" = some (some (.ref f_B_circuit_of)))
    (i_B_circuit_of : PySem.W.isFn K (.ref f_B_circuit_of) = true)
    (l_B_circuit_of : K.lookup f_B_circuit_of = some ⟨oc_B_circuit_of, od_B_circuit_of, .func (PySem.W.fnOf "circuit_of" "Library.circuit_of" (defArgs s_B_circuit_of) (defBody s_B_circuit_of) (defScope s_B_circuit_of) .none kV_B_circuit_of dc_B_circuit_of pm_B_circuit_of an_B_circuit_of cd_B_circuit_of ct_B_circuit_of), sl_B_circuit_of⟩)
    (c_B_circuit_of' : PySem.W.codeIn K cd_B_circuit_of "Library.circuit_of" = true)
    (k_B_circuit_of : PySem.W.keepIn K (.ref f_B_circuit_of) = true)
    (a_B_restart : PySem.W.findIn K (.ref c_B) "restart" = some (some (.ref f_B_restart)))
    (i_B_restart : PySem.W.isFn K (.ref f_B_restart) = true)
    (l_B_restart : K.lookup f_B_restart = some ⟨oc_B_restart, od_B_restart, .func (PySem.W.fnOf "restart" "Library.restart" (defArgs s_B_restart) (defBody s_B_restart) (defScope s_B_restart) .none kV_B_restart dc_B_restart pm_B_restart an_B_restart cd_B_restart ct_B_restart), sl_B_restart⟩)
    (c_B_restart' : PySem.W.codeIn K cd_B_restart "Library.restart" = true)
    (k_B_restart : PySem.W.keepIn K (.ref f_B_restart) = true)
    (a_B_told_state : PySem.W.findIn K (.ref c_B) "told_state" = some (some (.ref f_B_told_state)))
    (i_B_told_state : PySem.W.isFn K (.ref f_B_told_state) = true)
    (l_B_told_state : K.lookup f_B_told_state = some ⟨oc_B_told_state, od_B_told_state, .func (PySem.W.fnOf "told_state" "Library.told_state" (defArgs s_B_told_state) (defBody s_B_told_state) (defScope s_B_told_state) .none kV_B_told_state dc_B_told_state pm_B_told_state an_B_told_state cd_B_told_state ct_B_told_state), sl_B_told_state⟩)
    (c_B_told_state' : PySem.W.codeIn K cd_B_told_state "Library.told_state" = true)
    (k_B_told_state : PySem.W.keepIn K (.ref f_B_told_state) = true)
    (a_B_call : PySem.W.findIn K (.ref c_B) "call" = some (some (.ref f_B_call)))
    (i_B_call : PySem.W.isFn K (.ref f_B_call) = true)
    (l_B_call : K.lookup f_B_call = some ⟨oc_B_call, od_B_call, .func (PySem.W.fnOf "call" "Library.call" (defArgs s_B_call) (defBody s_B_call) (defScope s_B_call) .none kV_B_call dc_B_call pm_B_call an_B_call cd_B_call ct_B_call), sl_B_call⟩)
    (c_B_call' : PySem.W.codeIn K cd_B_call "Library.call" = true)
    (k_B_call : PySem.W.keepIn K (.ref f_B_call) = true)
    (a_answered : PySem.W.nsIn K mainGlobals "answered" = some (some (.ref f_answered)))
    (l_answered : K.lookup f_answered = some ⟨oc_answered, od_answered, .func (PySem.W.fnOf "answered" "answered" (defArgs s_answered) (defBody s_answered) (defScope s_answered) .none kV_answered dc_answered pm_answered an_answered cd_answered ct_answered), sl_answered⟩)
    (c_answered' : PySem.W.codeIn K cd_answered "answered" = true)
    (k_answered : PySem.W.keepIn K (.ref f_answered) = true)
    (a_answers : PySem.W.nsIn K mainGlobals "answers" = some (some (.ref f_answers)))
    (l_answers : K.lookup f_answers = some ⟨oc_answers, od_answers, .func (PySem.W.fnOf "answers" "answers" (defArgs s_answers) (defBody s_answers) (defScope s_answers) .none kV_answers dc_answers pm_answers an_answers cd_answers ct_answers), sl_answers⟩)
    (c_answers' : PySem.W.codeIn K cd_answers "answers" = true)
    (k_answers : PySem.W.keepIn K (.ref f_answers) = true)
    (pg_R : PySem.W.plainGet K c_R Str.empty = true)
    (hd_R : PySem.W.hasDictIn K c_R = true)
    (po_R : PySem.W.plainOver K c_R = true)
    (sa_R : PySem.W.findIn K (.ref c_R) "__setattr__" = some (some (.builtin "object.__setattr__")))
    (mk_R : PySem.W.makesIn K c_R = true)
    (kc_R : PySem.W.keepIn K (.ref c_R) = true)
    (a_R_octets' : PySem.W.findIn K (.ref c_R) "octets" = some none)
    (a_R_at' : PySem.W.findIn K (.ref c_R) "at" = some none)
    (xL : K.lookup c_X = some (excClassObj nmX qX c_X NX bsX [.type "ValueError", .type "Exception", .type "BaseException", .type "object"] true snX subX abX colX ddX m0X m1X m2X m3X m5X "ValueError.__new__"))
    (saX : PySem.W.findIn K (.ref c_X) "__setattr__" = some (some (.builtin "object.__setattr__")))
    (gaX : PySem.W.findIn K (.ref c_X) "__getattribute__" = some (some (.builtin "BaseException.__getattribute__")))
    (ggX : PySem.W.findIn K (.ref c_X) "__getattr__" = some none)
    (tX : PySem.W.typeIn K (.ref f_X_init) = some (.type "function"))
    (kcX : PySem.W.keepIn K (.ref c_X) = true)
    (eCX : PySem.W.subIn K (.ref c_X) (.type "BaseException") = some true)
    (tCX : PySem.W.typeIn K (.ref c_X) = some (.type "type"))
    (hdX : PySem.W.hasDictIn K c_X = true)
    (iCX : PySem.W.isClsIn K c_X = true)
    (sCX : PySem.W.subIn K (.ref c_X) (.ref c_X) = some true)
    (x_order : PySem.W.findIn K (.ref c_X) "order" = some none)
    (x_message : PySem.W.findIn K (.ref c_X) "message" = some none)
    (x_further : PySem.W.findIn K (.ref c_X) "further" = some none)
    (pg_E : PySem.W.plainGet K c_E Str.empty = true)
    (hd_E : PySem.W.hasDictIn K c_E = true)
    (po_E : PySem.W.plainOver K c_E = true)
    (sa_E : PySem.W.findIn K (.ref c_E) "__setattr__" = some (some (.builtin "object.__setattr__")))
    (mk_E : PySem.W.makesIn K c_E = true)
    (kc_E : PySem.W.keepIn K (.ref c_E) = true)
    (a_E_waits' : PySem.W.findIn K (.ref c_E) "waits" = some none)
    (a_E_counts' : PySem.W.findIn K (.ref c_E) "counts" = some none)
    (a_E_inboxes' : PySem.W.findIn K (.ref c_E) "inboxes" = some none)
    (a_E_resets' : PySem.W.findIn K (.ref c_E) "resets" = some none)
    (a_E_sent' : PySem.W.findIn K (.ref c_E) "sent" = some none)
    (a_E_got' : PySem.W.findIn K (.ref c_E) "got" = some none)
    (pg_L : PySem.W.plainGet K c_L Str.empty = true)
    (hd_L : PySem.W.hasDictIn K c_L = true)
    (po_L : PySem.W.plainOver K c_L = true)
    (sa_L : PySem.W.findIn K (.ref c_L) "__setattr__" = some (some (.builtin "object.__setattr__")))
    (mk_L : PySem.W.makesIn K c_L = true)
    (kc_L : PySem.W.keepIn K (.ref c_L) = true)
    (a_L_ends' : PySem.W.findIn K (.ref c_L) "ends" = some none)
    (a_L_queues' : PySem.W.findIn K (.ref c_L) "queues" = some none)
    (pg_C : PySem.W.plainGet K c_C Str.empty = true)
    (hd_C : PySem.W.hasDictIn K c_C = true)
    (po_C : PySem.W.plainOver K c_C = true)
    (sa_C : PySem.W.findIn K (.ref c_C) "__setattr__" = some (some (.builtin "object.__setattr__")))
    (mk_C : PySem.W.makesIn K c_C = true)
    (kc_C : PySem.W.keepIn K (.ref c_C) = true)
    (a_C_window' : PySem.W.findIn K (.ref c_C) "window" = some none)
    (a_C_links' : PySem.W.findIn K (.ref c_C) "links" = some none)
    (pg_W : PySem.W.plainGet K c_W Str.empty = true)
    (hd_W : PySem.W.hasDictIn K c_W = true)
    (po_W : PySem.W.plainOver K c_W = true)
    (sa_W : PySem.W.findIn K (.ref c_W) "__setattr__" = some (some (.builtin "object.__setattr__")))
    (mk_W : PySem.W.makesIn K c_W = true)
    (kc_W : PySem.W.keepIn K (.ref c_W) = true)
    (a_W_circuit' : PySem.W.findIn K (.ref c_W) "circuit" = some none)
    (a_W_is_over' : PySem.W.findIn K (.ref c_W) "is_over" = some none)
    (pg_B : PySem.W.plainGet K c_B Str.empty = true)
    (hd_B : PySem.W.hasDictIn K c_B = true)
    (po_B : PySem.W.plainOver K c_B = true)
    (sa_B : PySem.W.findIn K (.ref c_B) "__setattr__" = some (some (.builtin "object.__setattr__")))
    (mk_B : PySem.W.makesIn K c_B = true)
    (kc_B : PySem.W.keepIn K (.ref c_B) = true)
    (a_B_nets' : PySem.W.findIn K (.ref c_B) "nets" = some none)
    (a_B_walks' : PySem.W.findIn K (.ref c_B) "walks" = some none)
    (v_NOTHING : PySem.W.nsIn K mainGlobals "NOTHING" = some (some (.ref t_NOTHING)))
    (w_NOTHING : K.lookup t_NOTHING = some ⟨.type "tuple", none, .seq #[.int 0 j0_NOTHING] n_NOTHING, sl_NOTHING⟩)
    (v_NULL : PySem.W.nsIn K mainGlobals "NULL" = some (some (.ref t_NULL)))
    (w_NULL : K.lookup t_NULL = some ⟨.type "tuple", none, .seq #[.int 1 j0_NULL] n_NULL, sl_NULL⟩)
    (v_FALSE : PySem.W.nsIn K mainGlobals "FALSE" = some (some (.ref t_FALSE)))
    (w_FALSE : K.lookup t_FALSE = some ⟨.type "tuple", none, .seq #[.int 2 j0_FALSE] n_FALSE, sl_FALSE⟩)
    (v_TRUE : PySem.W.nsIn K mainGlobals "TRUE" = some (some (.ref t_TRUE)))
    (w_TRUE : K.lookup t_TRUE = some ⟨.type "tuple", none, .seq #[.int 3 j0_TRUE] n_TRUE, sl_TRUE⟩)
    (v_INTEGER : PySem.W.nsIn K mainGlobals "INTEGER" = some (some (.int 4 j_INTEGER)))
    (v_TEXT : PySem.W.nsIn K mainGlobals "TEXT" = some (some (.int 6 j_TEXT)))
    (v_LIST : PySem.W.nsIn K mainGlobals "LIST" = some (some (.int 7 j_LIST)))
    (v_RECORD : PySem.W.nsIn K mainGlobals "RECORD" = some (some (.int 8 j_RECORD)))
    (v_OCTETS : PySem.W.nsIn K mainGlobals "OCTETS" = some (some (.int 10 j_OCTETS)))
    (v_WORD : PySem.W.nsIn K mainGlobals "WORD" = some (some (.int 18446744073709551616 j_WORD)))
    (v_HALF : PySem.W.nsIn K mainGlobals "HALF" = some (some (.int 9223372036854775808 j_HALF)))
    (v_LEFT : PySem.W.nsIn K mainGlobals "LEFT" = some (some (.int 0 j_LEFT)))
    (v_RIGHT : PySem.W.nsIn K mainGlobals "RIGHT" = some (some (.int 1 j_RIGHT)))
    (v_DATA : PySem.W.nsIn K mainGlobals "DATA" = some (some (.str "data" j_DATA)))
    (v_URGENT : PySem.W.nsIn K mainGlobals "URGENT" = some (some (.str "urgent" j_URGENT)))
    (v_CREDITS : PySem.W.nsIn K mainGlobals "CREDITS" = some (some (.ref t_CREDITS)))
    (w_CREDITS : K.lookup t_CREDITS = some ⟨.type "tuple", none, .seq #[.str "credit" j0_CREDITS, .str "urgent credit" j1_CREDITS] n_CREDITS, sl_CREDITS⟩)
    (v_RESET : PySem.W.nsIn K mainGlobals "RESET" = some (some (.str "reset" j_RESET)))
    (v_CONFIRM : PySem.W.nsIn K mainGlobals "CONFIRM" = some (some (.str "confirm" j_CONFIRM)))
    (v_PACKETS : PySem.W.nsIn K mainGlobals "PACKETS" = some (some (.ref t_PACKETS)))
    (w_PACKETS : K.lookup t_PACKETS = some ⟨.type "tuple", none, .seq #[.str "data" j0_PACKETS, .str "urgent" j1_PACKETS] n_PACKETS, sl_PACKETS⟩)
    (v_ORDINARY : PySem.W.nsIn K mainGlobals "ORDINARY" = some (some (.int 0 j_ORDINARY)))
    (v_FORWARDS : PySem.W.nsIn K mainGlobals "FORWARDS" = some (some (.ref t_FORWARDS)))
    (w_FORWARDS : K.lookup t_FORWARDS = some ⟨.type "tuple", none, .seq #[.str "forward" j0_FORWARDS, .str "forward urgent" j1_FORWARDS] n_FORWARDS, sl_FORWARDS⟩)
    (v_MOST_ARGUMENTS : PySem.W.nsIn K mainGlobals "MOST_ARGUMENTS" = some (some (.int 5 j_MOST_ARGUMENTS)))
    (v_MOST_VALUE : PySem.W.nsIn K mainGlobals "MOST_VALUE" = some (some (.int 255 j_MOST_VALUE)))
    (v_MOST_RUN : PySem.W.nsIn K mainGlobals "MOST_RUN" = some (some (.int 1000 j_MOST_RUN)))
    (v_SIDES : PySem.W.nsIn K mainGlobals "SIDES" = some (some (.ref t_SIDES)))
    (w_SIDES : K.lookup t_SIDES = some ⟨.type "tuple", none, .seq #[.str "left" j0_SIDES, .str "right" j1_SIDES] n_SIDES, sl_SIDES⟩)
    (b_len : PySem.W.nsIn K mainGlobals "len" = some none)
    (b_range : PySem.W.nsIn K mainGlobals "range" = some none)
    (b_tuple : PySem.W.nsIn K mainGlobals "tuple" = some none)
    (b_list : PySem.W.nsIn K mainGlobals "list" = some none)
    (b_ord : PySem.W.nsIn K mainGlobals "ord" = some none)
    (b_str : PySem.W.nsIn K mainGlobals "str" = some none)
    (b_all : PySem.W.nsIn K mainGlobals "all" = some none)
    : ∃ A : Adr, Txt K mg A := by
  refine ⟨⟨f_codes_of, f_integer, f_text, f_truth, f_listed, f_integers, f_record, f_low_first, f_octets_of, f_R_init, f_R_number, f_R_plain, f_R_value, f_R_whole, f_X_init, f_wrong_kind, f_out_of_range, f_E_init, f_E_clear, f_E_anew, f_E_note, f_L_init, f_L_put, f_L_can_send, f_L_send, f_L_take, f_L_reset, f_L_arrive, f_C_init, f_C_is_quiet, f_C_terminal, f_C_check_send, f_C_send, f_C_read, f_C_links_at, f_C_can_forward, f_C_pass_on, f_C_forward, f_C_deliver, f_C_reset, f_C_step, f_messages_of, f_W_init, f_W_take, f_is_integer, f_number_of, f_member, f_side_of, f_circuits_of, f_told_packet, f_told_packets, f_told_item, f_told_end, f_told_link, f_told_log, f_told_messages, f_octet_of, f_on_terminal, f_on_circuit, f_told_step, f_on_walk, f_B_init, f_B_circuit_of, f_B_restart, f_B_told_state, f_B_call, f_answered, f_answers, c_R, c_X, c_E, c_L, c_C, c_W, c_B, t_NOTHING, t_NULL, t_FALSE, t_TRUE, t_CREDITS, t_PACKETS, t_FORWARDS, t_SIDES⟩, ?_⟩
  exact {
    F_codes_of := .of (fun_mk (st := s_codes_of) l_codes_of c_codes_of' k_codes_of) ((fun_mk (st := s_codes_of) l_codes_of c_codes_of' k_codes_of).binds (ps := p_codes_of) fun _ _ _ _ _ _ us hl => match us, hl with | [_], _ => rfl)
    g_codes_of := PySem.W.mg_of X G a_codes_of
    F_integer := .of (fun_mk (st := s_integer) l_integer c_integer' k_integer) ((fun_mk (st := s_integer) l_integer c_integer' k_integer).binds (ps := p_integer) fun _ _ _ _ _ _ us hl => match us, hl with | [_], _ => rfl)
    g_integer := PySem.W.mg_of X G a_integer
    F_text := .of (fun_mk (st := s_text) l_text c_text' k_text) ((fun_mk (st := s_text) l_text c_text' k_text).binds (ps := p_text) fun _ _ _ _ _ _ us hl => match us, hl with | [_], _ => rfl)
    g_text := PySem.W.mg_of X G a_text
    F_truth := .of (fun_mk (st := s_truth) l_truth c_truth' k_truth) ((fun_mk (st := s_truth) l_truth c_truth' k_truth).binds (ps := p_truth) fun _ _ _ _ _ _ us hl => match us, hl with | [_], _ => rfl)
    g_truth := PySem.W.mg_of X G a_truth
    F_listed := .of (fun_mk (st := s_listed) l_listed c_listed' k_listed) ((fun_mk (st := s_listed) l_listed c_listed' k_listed).binds (ps := p_listed) fun _ _ _ _ _ _ us hl => match us, hl with | [_], _ => rfl)
    g_listed := PySem.W.mg_of X G a_listed
    F_integers := .of (fun_mk (st := s_integers) l_integers c_integers' k_integers) ((fun_mk (st := s_integers) l_integers c_integers' k_integers).binds (ps := p_integers) fun _ _ _ _ _ _ us hl => match us, hl with | [_], _ => rfl)
    g_integers := PySem.W.mg_of X G a_integers
    F_record := .of (fun_mk (st := s_record) l_record c_record' k_record) ((fun_mk (st := s_record) l_record c_record' k_record).binds (ps := p_record) fun _ _ _ _ _ _ us hl => match us, hl with | [_], _ => rfl)
    g_record := PySem.W.mg_of X G a_record
    F_low_first := .of (fun_mk (st := s_low_first) l_low_first c_low_first' k_low_first) ((fun_mk (st := s_low_first) l_low_first c_low_first' k_low_first).binds (ps := p_low_first) fun _ _ _ _ _ _ us hl => match us, hl with | [_, _], _ => rfl)
    g_low_first := PySem.W.mg_of X G a_low_first
    F_octets_of := .of (fun_mk (st := s_octets_of) l_octets_of c_octets_of' k_octets_of) ((fun_mk (st := s_octets_of) l_octets_of c_octets_of' k_octets_of).binds (ps := p_octets_of) fun _ _ _ _ _ _ us hl => match us, hl with | [_], _ => rfl)
    g_octets_of := PySem.W.mg_of X G a_octets_of
    F_R_init := .of (fun_mk (st := s_R_init) l_R_init c_R_init' k_R_init) ((fun_mk (st := s_R_init) l_R_init c_R_init' k_R_init).binds (ps := p_R_init) fun _ _ _ _ _ _ us hl => match us, hl with | [_, _], _ => rfl)
    F_R_number := .of (fun_mk (st := s_R_number) l_R_number c_R_number' k_R_number) ((fun_mk (st := s_R_number) l_R_number c_R_number' k_R_number).binds (ps := p_R_number) fun _ _ _ _ _ _ us hl => match us, hl with | [_, _], _ => rfl)
    m_R_number := ⟨a_R_number, i_R_number, k_R_number⟩
    F_R_plain := .of (fun_mk (st := s_R_plain) l_R_plain c_R_plain' k_R_plain) ((fun_mk (st := s_R_plain) l_R_plain c_R_plain' k_R_plain).binds (ps := p_R_plain) fun _ _ _ _ _ _ us hl => match us, hl with | [_], _ => rfl)
    m_R_plain := ⟨a_R_plain, i_R_plain, k_R_plain⟩
    F_R_value := .of (fun_mk (st := s_R_value) l_R_value c_R_value' k_R_value) ((fun_mk (st := s_R_value) l_R_value c_R_value' k_R_value).binds (ps := p_R_value) fun _ _ _ _ _ _ us hl => match us, hl with | [_], _ => rfl)
    m_R_value := ⟨a_R_value, i_R_value, k_R_value⟩
    F_R_whole := .of (fun_mk (st := s_R_whole) l_R_whole c_R_whole' k_R_whole) ((fun_mk (st := s_R_whole) l_R_whole c_R_whole' k_R_whole).binds (ps := p_R_whole) fun _ _ _ _ _ _ us hl => match us, hl with | [_], _ => rfl)
    m_R_whole := ⟨a_R_whole, i_R_whole, k_R_whole⟩
    F_X_init := .of (fun_mk (st := s_X_init) l_X_init c_X_init' k_X_init) ((fun_mk (st := s_X_init) l_X_init c_X_init' k_X_init).binds (ps := p_X_init) fun _ _ _ _ _ _ us hl => match us, hl with | [_, _, _, _], _ => rfl)
    F_wrong_kind := .of (fun_mk (st := s_wrong_kind) l_wrong_kind c_wrong_kind' k_wrong_kind) ((fun_mk (st := s_wrong_kind) l_wrong_kind c_wrong_kind' k_wrong_kind).binds (ps := p_wrong_kind) fun _ _ _ _ _ _ us hl => match us, hl with | [_, _], _ => rfl)
    g_wrong_kind := PySem.W.mg_of X G a_wrong_kind
    F_out_of_range := .of (fun_mk (st := s_out_of_range) l_out_of_range c_out_of_range' k_out_of_range) ((fun_mk (st := s_out_of_range) l_out_of_range c_out_of_range' k_out_of_range).binds (ps := p_out_of_range) fun _ _ _ _ _ _ us hl => match us, hl with | [_, _], _ => rfl)
    g_out_of_range := PySem.W.mg_of X G a_out_of_range
    F_E_init := .of (fun_mk (st := s_E_init) l_E_init c_E_init' k_E_init) ((fun_mk (st := s_E_init) l_E_init c_E_init' k_E_init).binds (ps := p_E_init) fun _ _ _ _ _ _ us hl => match us, hl with | [_], _ => rfl)
    F_E_clear := .of (fun_mk (st := s_E_clear) l_E_clear c_E_clear' k_E_clear) ((fun_mk (st := s_E_clear) l_E_clear c_E_clear' k_E_clear).binds (ps := p_E_clear) fun _ _ _ _ _ _ us hl => match us, hl with | [_], _ => rfl)
    m_E_clear := ⟨a_E_clear, i_E_clear, k_E_clear⟩
    F_E_anew := .of (fun_mk (st := s_E_anew) l_E_anew c_E_anew' k_E_anew) ((fun_mk (st := s_E_anew) l_E_anew c_E_anew' k_E_anew).binds (ps := p_E_anew) fun _ _ _ _ _ _ us hl => match us, hl with | [_], _ => rfl)
    m_E_anew := ⟨a_E_anew, i_E_anew, k_E_anew⟩
    F_E_note := .of (fun_mk (st := s_E_note) l_E_note c_E_note' k_E_note) ((fun_mk (st := s_E_note) l_E_note c_E_note' k_E_note).binds (ps := p_E_note) fun _ _ _ _ _ _ us hl => match us, hl with | [_, _, _, _], _ => rfl)
    m_E_note := ⟨a_E_note, i_E_note, k_E_note⟩
    F_L_init := .of (fun_mk (st := s_L_init) l_L_init c_L_init' k_L_init) ((fun_mk (st := s_L_init) l_L_init c_L_init' k_L_init).binds (ps := p_L_init) fun _ _ _ _ _ _ us hl => match us, hl with | [_], _ => rfl)
    F_L_put := .of (fun_mk (st := s_L_put) l_L_put c_L_put' k_L_put) ((fun_mk (st := s_L_put) l_L_put c_L_put' k_L_put).binds (ps := p_L_put) fun _ _ _ _ _ _ us hl => match us, hl with | [_, _, _, _], _ => rfl)
    m_L_put := ⟨a_L_put, i_L_put, k_L_put⟩
    F_L_can_send := .of (fun_mk (st := s_L_can_send) l_L_can_send c_L_can_send' k_L_can_send) ((fun_mk (st := s_L_can_send) l_L_can_send c_L_can_send' k_L_can_send).binds (ps := p_L_can_send) fun _ _ _ _ _ _ us hl => match us, hl with | [_, _, _, _], _ => rfl)
    m_L_can_send := ⟨a_L_can_send, i_L_can_send, k_L_can_send⟩
    F_L_send := .of (fun_mk (st := s_L_send) l_L_send c_L_send' k_L_send) ((fun_mk (st := s_L_send) l_L_send c_L_send' k_L_send).binds (ps := p_L_send) fun _ _ _ _ _ _ us hl => match us, hl with | [_, _, _, _], _ => rfl)
    m_L_send := ⟨a_L_send, i_L_send, k_L_send⟩
    F_L_take := .of (fun_mk (st := s_L_take) l_L_take c_L_take' k_L_take) ((fun_mk (st := s_L_take) l_L_take c_L_take' k_L_take).binds (ps := p_L_take) fun _ _ _ _ _ _ us hl => match us, hl with | [_, _, _], _ => rfl)
    m_L_take := ⟨a_L_take, i_L_take, k_L_take⟩
    F_L_reset := .of (fun_mk (st := s_L_reset) l_L_reset c_L_reset' k_L_reset) ((fun_mk (st := s_L_reset) l_L_reset c_L_reset' k_L_reset).binds (ps := p_L_reset) fun _ _ _ _ _ _ us hl => match us, hl with | [_, _], _ => rfl)
    m_L_reset := ⟨a_L_reset, i_L_reset, k_L_reset⟩
    F_L_arrive := .of (fun_mk (st := s_L_arrive) l_L_arrive c_L_arrive' k_L_arrive) ((fun_mk (st := s_L_arrive) l_L_arrive c_L_arrive' k_L_arrive).binds (ps := p_L_arrive) fun _ _ _ _ _ _ us hl => match us, hl with | [_, _], _ => rfl)
    m_L_arrive := ⟨a_L_arrive, i_L_arrive, k_L_arrive⟩
    F_C_init := .of (fun_mk (st := s_C_init) l_C_init c_C_init' k_C_init) ((fun_mk (st := s_C_init) l_C_init c_C_init' k_C_init).binds (ps := p_C_init) fun _ _ _ _ _ _ us hl => match us, hl with | [_, _, _], _ => rfl)
    F_C_is_quiet := .of (fun_mk (st := s_C_is_quiet) l_C_is_quiet c_C_is_quiet' k_C_is_quiet) ((fun_mk (st := s_C_is_quiet) l_C_is_quiet c_C_is_quiet' k_C_is_quiet).binds (ps := p_C_is_quiet) fun _ _ _ _ _ _ us hl => match us, hl with | [_], _ => rfl)
    m_C_is_quiet := ⟨a_C_is_quiet, i_C_is_quiet, k_C_is_quiet⟩
    F_C_terminal := .of (fun_mk (st := s_C_terminal) l_C_terminal c_C_terminal' k_C_terminal) ((fun_mk (st := s_C_terminal) l_C_terminal c_C_terminal' k_C_terminal).binds (ps := p_C_terminal) fun _ _ _ _ _ _ us hl => match us, hl with | [_, _], _ => rfl)
    m_C_terminal := ⟨a_C_terminal, i_C_terminal, k_C_terminal⟩
    F_C_check_send := .of (fun_mk (st := s_C_check_send) l_C_check_send c_C_check_send' k_C_check_send) ((fun_mk (st := s_C_check_send) l_C_check_send c_C_check_send' k_C_check_send).binds (ps := p_C_check_send) fun _ _ _ _ _ _ us hl => match us, hl with | [_, _, _, _], _ => rfl)
    m_C_check_send := ⟨a_C_check_send, i_C_check_send, k_C_check_send⟩
    F_C_send := .of (fun_mk (st := s_C_send) l_C_send c_C_send' k_C_send) ((fun_mk (st := s_C_send) l_C_send c_C_send' k_C_send).binds (ps := p_C_send) fun _ _ _ _ _ _ us hl => match us, hl with | [_, _, _, _], _ => rfl)
    m_C_send := ⟨a_C_send, i_C_send, k_C_send⟩
    F_C_read := .of (fun_mk (st := s_C_read) l_C_read c_C_read' k_C_read) ((fun_mk (st := s_C_read) l_C_read c_C_read' k_C_read).binds (ps := p_C_read) fun _ _ _ _ _ _ us hl => match us, hl with | [_, _, _], _ => rfl)
    m_C_read := ⟨a_C_read, i_C_read, k_C_read⟩
    F_C_links_at := .of (fun_mk (st := s_C_links_at) l_C_links_at c_C_links_at' k_C_links_at) ((fun_mk (st := s_C_links_at) l_C_links_at c_C_links_at' k_C_links_at).binds (ps := p_C_links_at) fun _ _ _ _ _ _ us hl => match us, hl with | [_, _, _], _ => rfl)
    m_C_links_at := ⟨a_C_links_at, i_C_links_at, k_C_links_at⟩
    F_C_can_forward := .of (fun_mk (st := s_C_can_forward) l_C_can_forward c_C_can_forward' k_C_can_forward) ((fun_mk (st := s_C_can_forward) l_C_can_forward c_C_can_forward' k_C_can_forward).binds (ps := p_C_can_forward) fun _ _ _ _ _ _ us hl => match us, hl with | [_, _, _, _], _ => rfl)
    m_C_can_forward := ⟨a_C_can_forward, i_C_can_forward, k_C_can_forward⟩
    F_C_pass_on := .of (fun_mk (st := s_C_pass_on) l_C_pass_on c_C_pass_on' k_C_pass_on) ((fun_mk (st := s_C_pass_on) l_C_pass_on c_C_pass_on' k_C_pass_on).binds (ps := p_C_pass_on) fun _ _ _ _ _ _ us hl => match us, hl with | [_, _, _, _], _ => rfl)
    m_C_pass_on := ⟨a_C_pass_on, i_C_pass_on, k_C_pass_on⟩
    F_C_forward := .of (fun_mk (st := s_C_forward) l_C_forward c_C_forward' k_C_forward) ((fun_mk (st := s_C_forward) l_C_forward c_C_forward' k_C_forward).binds (ps := p_C_forward) fun _ _ _ _ _ _ us hl => match us, hl with | [_, _, _, _], _ => rfl)
    m_C_forward := ⟨a_C_forward, i_C_forward, k_C_forward⟩
    F_C_deliver := .of (fun_mk (st := s_C_deliver) l_C_deliver c_C_deliver' k_C_deliver) ((fun_mk (st := s_C_deliver) l_C_deliver c_C_deliver' k_C_deliver).binds (ps := p_C_deliver) fun _ _ _ _ _ _ us hl => match us, hl with | [_, _, _], _ => rfl)
    m_C_deliver := ⟨a_C_deliver, i_C_deliver, k_C_deliver⟩
    F_C_reset := .of (fun_mk (st := s_C_reset) l_C_reset c_C_reset' k_C_reset) ((fun_mk (st := s_C_reset) l_C_reset c_C_reset' k_C_reset).binds (ps := p_C_reset) fun _ _ _ _ _ _ us hl => match us, hl with | [_, _], _ => rfl)
    m_C_reset := ⟨a_C_reset, i_C_reset, k_C_reset⟩
    F_C_step := .of (fun_mk (st := s_C_step) l_C_step c_C_step' k_C_step) ((fun_mk (st := s_C_step) l_C_step c_C_step' k_C_step).binds (ps := p_C_step) fun _ _ _ _ _ _ us hl => match us, hl with | [_], _ => rfl)
    m_C_step := ⟨a_C_step, i_C_step, k_C_step⟩
    F_messages_of := .of (fun_mk (st := s_messages_of) l_messages_of c_messages_of' k_messages_of) ((fun_mk (st := s_messages_of) l_messages_of c_messages_of' k_messages_of).binds (ps := p_messages_of) fun _ _ _ _ _ _ us hl => match us, hl with | [_], _ => rfl)
    g_messages_of := PySem.W.mg_of X G a_messages_of
    F_W_init := .of (fun_mk (st := s_W_init) l_W_init c_W_init' k_W_init) ((fun_mk (st := s_W_init) l_W_init c_W_init' k_W_init).binds (ps := p_W_init) fun _ _ _ _ _ _ us hl => match us, hl with | [_, _], _ => rfl)
    F_W_take := .of (fun_mk (st := s_W_take) l_W_take c_W_take' k_W_take) ((fun_mk (st := s_W_take) l_W_take c_W_take' k_W_take).binds (ps := p_W_take) fun _ _ _ _ _ _ us hl => match us, hl with | [_], _ => rfl)
    m_W_take := ⟨a_W_take, i_W_take, k_W_take⟩
    F_is_integer := .of (fun_mk (st := s_is_integer) l_is_integer c_is_integer' k_is_integer) ((fun_mk (st := s_is_integer) l_is_integer c_is_integer' k_is_integer).binds (ps := p_is_integer) fun _ _ _ _ _ _ us hl => match us, hl with | [_, _, _], _ => rfl)
    g_is_integer := PySem.W.mg_of X G a_is_integer
    F_number_of := .of (fun_mk (st := s_number_of) l_number_of c_number_of' k_number_of) ((fun_mk (st := s_number_of) l_number_of c_number_of' k_number_of).binds (ps := p_number_of) fun _ _ _ _ _ _ us hl => match us, hl with | [_, _, _, _], _ => rfl)
    g_number_of := PySem.W.mg_of X G a_number_of
    F_member := .of (fun_mk (st := s_member) l_member c_member' k_member) ((fun_mk (st := s_member) l_member c_member' k_member).binds (ps := p_member) fun _ _ _ _ _ _ us hl => match us, hl with | [_, _], _ => rfl)
    g_member := PySem.W.mg_of X G a_member
    F_side_of := .of (fun_mk (st := s_side_of) l_side_of c_side_of' k_side_of) ((fun_mk (st := s_side_of) l_side_of c_side_of' k_side_of).binds (ps := p_side_of) fun _ _ _ _ _ _ us hl => match us, hl with | [_, _], _ => rfl)
    g_side_of := PySem.W.mg_of X G a_side_of
    F_circuits_of := .of (fun_mk (st := s_circuits_of) l_circuits_of c_circuits_of' k_circuits_of) ((fun_mk (st := s_circuits_of) l_circuits_of c_circuits_of' k_circuits_of).binds (ps := p_circuits_of) fun _ _ _ _ _ _ us hl => match us, hl with | [_], _ => rfl)
    g_circuits_of := PySem.W.mg_of X G a_circuits_of
    F_told_packet := .of (fun_mk (st := s_told_packet) l_told_packet c_told_packet' k_told_packet) ((fun_mk (st := s_told_packet) l_told_packet c_told_packet' k_told_packet).binds (ps := p_told_packet) fun _ _ _ _ _ _ us hl => match us, hl with | [_], _ => rfl)
    g_told_packet := PySem.W.mg_of X G a_told_packet
    F_told_packets := .of (fun_mk (st := s_told_packets) l_told_packets c_told_packets' k_told_packets) ((fun_mk (st := s_told_packets) l_told_packets c_told_packets' k_told_packets).binds (ps := p_told_packets) fun _ _ _ _ _ _ us hl => match us, hl with | [_], _ => rfl)
    g_told_packets := PySem.W.mg_of X G a_told_packets
    F_told_item := .of (fun_mk (st := s_told_item) l_told_item c_told_item' k_told_item) ((fun_mk (st := s_told_item) l_told_item c_told_item' k_told_item).binds (ps := p_told_item) fun _ _ _ _ _ _ us hl => match us, hl with | [_], _ => rfl)
    g_told_item := PySem.W.mg_of X G a_told_item
    F_told_end := .of (fun_mk (st := s_told_end) l_told_end c_told_end' k_told_end) ((fun_mk (st := s_told_end) l_told_end c_told_end' k_told_end).binds (ps := p_told_end) fun _ _ _ _ _ _ us hl => match us, hl with | [_], _ => rfl)
    g_told_end := PySem.W.mg_of X G a_told_end
    F_told_link := .of (fun_mk (st := s_told_link) l_told_link c_told_link' k_told_link) ((fun_mk (st := s_told_link) l_told_link c_told_link' k_told_link).binds (ps := p_told_link) fun _ _ _ _ _ _ us hl => match us, hl with | [_], _ => rfl)
    g_told_link := PySem.W.mg_of X G a_told_link
    F_told_log := .of (fun_mk (st := s_told_log) l_told_log c_told_log' k_told_log) ((fun_mk (st := s_told_log) l_told_log c_told_log' k_told_log).binds (ps := p_told_log) fun _ _ _ _ _ _ us hl => match us, hl with | [_, _], _ => rfl)
    g_told_log := PySem.W.mg_of X G a_told_log
    F_told_messages := .of (fun_mk (st := s_told_messages) l_told_messages c_told_messages' k_told_messages) ((fun_mk (st := s_told_messages) l_told_messages c_told_messages' k_told_messages).binds (ps := p_told_messages) fun _ _ _ _ _ _ us hl => match us, hl with | [_], _ => rfl)
    g_told_messages := PySem.W.mg_of X G a_told_messages
    F_octet_of := .of (fun_mk (st := s_octet_of) l_octet_of c_octet_of' k_octet_of) ((fun_mk (st := s_octet_of) l_octet_of c_octet_of' k_octet_of).binds (ps := p_octet_of) fun _ _ _ _ _ _ us hl => match us, hl with | [_], _ => rfl)
    g_octet_of := PySem.W.mg_of X G a_octet_of
    F_on_terminal := .of (fun_mk (st := s_on_terminal) l_on_terminal c_on_terminal' k_on_terminal) ((fun_mk (st := s_on_terminal) l_on_terminal c_on_terminal' k_on_terminal).binds (ps := p_on_terminal) fun _ _ _ _ _ _ us hl => match us, hl with | [_, _, _], _ => rfl)
    g_on_terminal := PySem.W.mg_of X G a_on_terminal
    F_on_circuit := .of (fun_mk (st := s_on_circuit) l_on_circuit c_on_circuit' k_on_circuit) ((fun_mk (st := s_on_circuit) l_on_circuit c_on_circuit' k_on_circuit).binds (ps := p_on_circuit) fun _ _ _ _ _ _ us hl => match us, hl with | [_, _, _], _ => rfl)
    g_on_circuit := PySem.W.mg_of X G a_on_circuit
    F_told_step := .of (fun_mk (st := s_told_step) l_told_step c_told_step' k_told_step) ((fun_mk (st := s_told_step) l_told_step c_told_step' k_told_step).binds (ps := p_told_step) fun _ _ _ _ _ _ us hl => match us, hl with | [_, _], _ => rfl)
    g_told_step := PySem.W.mg_of X G a_told_step
    F_on_walk := .of (fun_mk (st := s_on_walk) l_on_walk c_on_walk' k_on_walk) ((fun_mk (st := s_on_walk) l_on_walk c_on_walk' k_on_walk).binds (ps := p_on_walk) fun _ _ _ _ _ _ us hl => match us, hl with | [_, _, _], _ => rfl)
    g_on_walk := PySem.W.mg_of X G a_on_walk
    F_B_init := .of (fun_mk (st := s_B_init) l_B_init c_B_init' k_B_init) ((fun_mk (st := s_B_init) l_B_init c_B_init' k_B_init).binds (ps := p_B_init) fun _ _ _ _ _ _ us hl => match us, hl with | [_], _ => rfl)
    F_B_circuit_of := .of (fun_mk (st := s_B_circuit_of) l_B_circuit_of c_B_circuit_of' k_B_circuit_of) ((fun_mk (st := s_B_circuit_of) l_B_circuit_of c_B_circuit_of' k_B_circuit_of).binds (ps := p_B_circuit_of) fun _ _ _ _ _ _ us hl => match us, hl with | [_, _, _], _ => rfl)
    m_B_circuit_of := ⟨a_B_circuit_of, i_B_circuit_of, k_B_circuit_of⟩
    F_B_restart := .of (fun_mk (st := s_B_restart) l_B_restart c_B_restart' k_B_restart) ((fun_mk (st := s_B_restart) l_B_restart c_B_restart' k_B_restart).binds (ps := p_B_restart) fun _ _ _ _ _ _ us hl => match us, hl with | [_, _, _], _ => rfl)
    m_B_restart := ⟨a_B_restart, i_B_restart, k_B_restart⟩
    F_B_told_state := .of (fun_mk (st := s_B_told_state) l_B_told_state c_B_told_state' k_B_told_state) ((fun_mk (st := s_B_told_state) l_B_told_state c_B_told_state' k_B_told_state).binds (ps := p_B_told_state) fun _ _ _ _ _ _ us hl => match us, hl with | [_, _], _ => rfl)
    m_B_told_state := ⟨a_B_told_state, i_B_told_state, k_B_told_state⟩
    F_B_call := .of (fun_mk (st := s_B_call) l_B_call c_B_call' k_B_call) ((fun_mk (st := s_B_call) l_B_call c_B_call' k_B_call).binds (ps := p_B_call) fun _ _ _ _ _ _ us hl => match us, hl with | [_, _, _], _ => rfl)
    m_B_call := ⟨a_B_call, i_B_call, k_B_call⟩
    F_answered := .of (fun_mk (st := s_answered) l_answered c_answered' k_answered) ((fun_mk (st := s_answered) l_answered c_answered' k_answered).binds (ps := p_answered) fun _ _ _ _ _ _ us hl => match us, hl with | [_, _], _ => rfl)
    g_answered := PySem.W.mg_of X G a_answered
    F_answers := .of (fun_mk (st := s_answers) l_answers c_answers' k_answers) ((fun_mk (st := s_answers) l_answers c_answers' k_answers).binds (ps := p_answers) fun _ _ _ _ _ _ us hl => match us, hl with | [_], _ => rfl)
    g_answers := PySem.W.mg_of X G a_answers
    gc_R := PySem.W.mg_of X G gc_R
    cl_R := ⟨pg_R, hd_R, po_R, sa_R⟩
    mk_R := ⟨mk_R, a_R_init, i_R_init, kc_R⟩
    a_R_octets := a_R_octets'
    a_R_at := a_R_at'
    gc_X := PySem.W.mg_of X G gc_X
    oex := ⟨⟨nmX, qX, NX, bsX, _, snX, subX, abX, colX, ddX, m0X, m1X, m2X, m3X, m5X, xL, by decide +kernel⟩, saX, eCX, tCX, kcX⟩
    iX := a_X_init
    tX := tX
    eX := exm_self eCX iCX tCX sCX
    gaX := gaX
    ggX := ggX
    hdX := hdX
    x_order := x_order
    x_message := x_message
    x_further := x_further
    gc_E := PySem.W.mg_of X G gc_E
    cl_E := ⟨pg_E, hd_E, po_E, sa_E⟩
    mk_E := ⟨mk_E, a_E_init, i_E_init, kc_E⟩
    a_E_waits := a_E_waits'
    a_E_counts := a_E_counts'
    a_E_inboxes := a_E_inboxes'
    a_E_resets := a_E_resets'
    a_E_sent := a_E_sent'
    a_E_got := a_E_got'
    gc_L := PySem.W.mg_of X G gc_L
    cl_L := ⟨pg_L, hd_L, po_L, sa_L⟩
    mk_L := ⟨mk_L, a_L_init, i_L_init, kc_L⟩
    a_L_ends := a_L_ends'
    a_L_queues := a_L_queues'
    gc_C := PySem.W.mg_of X G gc_C
    cl_C := ⟨pg_C, hd_C, po_C, sa_C⟩
    mk_C := ⟨mk_C, a_C_init, i_C_init, kc_C⟩
    a_C_window := a_C_window'
    a_C_links := a_C_links'
    gc_W := PySem.W.mg_of X G gc_W
    cl_W := ⟨pg_W, hd_W, po_W, sa_W⟩
    mk_W := ⟨mk_W, a_W_init, i_W_init, kc_W⟩
    a_W_circuit := a_W_circuit'
    a_W_is_over := a_W_is_over'
    gc_B := PySem.W.mg_of X G gc_B
    cl_B := ⟨pg_B, hd_B, po_B, sa_B⟩
    mk_B := ⟨mk_B, a_B_init, i_B_init, kc_B⟩
    a_B_nets := a_B_nets'
    a_B_walks := a_B_walks'
    v_NOTHING := PySem.W.mg_of X G v_NOTHING
    w_NOTHING := ⟨_, _, _, w_NOTHING, rfl, rfl, rfl, (by show 1 ≤ sizeLine; decide), .cons ⟨_, rfl⟩ (.nil)⟩
    v_NULL := PySem.W.mg_of X G v_NULL
    w_NULL := ⟨_, _, _, w_NULL, rfl, rfl, rfl, (by show 1 ≤ sizeLine; decide), .cons ⟨_, rfl⟩ (.nil)⟩
    v_FALSE := PySem.W.mg_of X G v_FALSE
    w_FALSE := ⟨_, _, _, w_FALSE, rfl, rfl, rfl, (by show 1 ≤ sizeLine; decide), .cons ⟨_, rfl⟩ (.nil)⟩
    v_TRUE := PySem.W.mg_of X G v_TRUE
    w_TRUE := ⟨_, _, _, w_TRUE, rfl, rfl, rfl, (by show 1 ≤ sizeLine; decide), .cons ⟨_, rfl⟩ (.nil)⟩
    v_INTEGER := ⟨_, PySem.W.mg_of X G v_INTEGER, ⟨_, rfl⟩⟩
    v_TEXT := ⟨_, PySem.W.mg_of X G v_TEXT, ⟨_, rfl⟩⟩
    v_LIST := ⟨_, PySem.W.mg_of X G v_LIST, ⟨_, rfl⟩⟩
    v_RECORD := ⟨_, PySem.W.mg_of X G v_RECORD, ⟨_, rfl⟩⟩
    v_OCTETS := ⟨_, PySem.W.mg_of X G v_OCTETS, ⟨_, rfl⟩⟩
    v_WORD := ⟨_, PySem.W.mg_of X G v_WORD, ⟨_, rfl⟩⟩
    v_HALF := ⟨_, PySem.W.mg_of X G v_HALF, ⟨_, rfl⟩⟩
    v_LEFT := ⟨_, PySem.W.mg_of X G v_LEFT, ⟨_, rfl⟩⟩
    v_RIGHT := ⟨_, PySem.W.mg_of X G v_RIGHT, ⟨_, rfl⟩⟩
    v_DATA := ⟨_, PySem.W.mg_of X G v_DATA, ⟨_, rfl⟩⟩
    v_URGENT := ⟨_, PySem.W.mg_of X G v_URGENT, ⟨_, rfl⟩⟩
    v_CREDITS := PySem.W.mg_of X G v_CREDITS
    w_CREDITS := ⟨_, _, _, w_CREDITS, rfl, rfl, rfl, (by show 2 ≤ sizeLine; decide), .cons ⟨_, rfl⟩ (.cons ⟨_, rfl⟩ (.nil))⟩
    v_RESET := ⟨_, PySem.W.mg_of X G v_RESET, ⟨_, rfl⟩⟩
    v_CONFIRM := ⟨_, PySem.W.mg_of X G v_CONFIRM, ⟨_, rfl⟩⟩
    v_PACKETS := PySem.W.mg_of X G v_PACKETS
    w_PACKETS := ⟨_, _, _, w_PACKETS, rfl, rfl, rfl, (by show 2 ≤ sizeLine; decide), .cons ⟨_, rfl⟩ (.cons ⟨_, rfl⟩ (.nil))⟩
    v_ORDINARY := ⟨_, PySem.W.mg_of X G v_ORDINARY, ⟨_, rfl⟩⟩
    v_FORWARDS := PySem.W.mg_of X G v_FORWARDS
    w_FORWARDS := ⟨_, _, _, w_FORWARDS, rfl, rfl, rfl, (by show 2 ≤ sizeLine; decide), .cons ⟨_, rfl⟩ (.cons ⟨_, rfl⟩ (.nil))⟩
    v_MOST_ARGUMENTS := ⟨_, PySem.W.mg_of X G v_MOST_ARGUMENTS, ⟨_, rfl⟩⟩
    v_MOST_VALUE := ⟨_, PySem.W.mg_of X G v_MOST_VALUE, ⟨_, rfl⟩⟩
    v_MOST_RUN := ⟨_, PySem.W.mg_of X G v_MOST_RUN, ⟨_, rfl⟩⟩
    v_SIDES := PySem.W.mg_of X G v_SIDES
    w_SIDES := ⟨_, _, _, w_SIDES, rfl, rfl, rfl, (by show 2 ≤ sizeLine; decide), .cons ⟨_, rfl⟩ (.cons ⟨_, rfl⟩ (.nil))⟩
    b_len := PySem.W.mg_none_of X G b_len
    b_range := PySem.W.mg_none_of X G b_range
    b_tuple := PySem.W.mg_none_of X G b_tuple
    b_list := PySem.W.mg_none_of X G b_list
    b_ord := PySem.W.mg_none_of X G b_ord
    b_str := PySem.W.mg_none_of X G b_str
    b_all := PySem.W.mg_none_of X G b_all
  }
end Rl
end
section
set_option linter.all false
/-! RlM1: the mirror of the program's links and ends, over plain data; the specification's links read as such (absL); each operation on a link commutes with absL. -/
namespace Rl
open R7251g.Spec

def upB {α : Type} (f : Bool → α) (b : Bool) (x : α) : Bool → α := fun c => if c = b then x else f c
theorem upB_same {α : Type} {f : Bool → α} {b : Bool} {x : α} : upB f b x b = x := if_pos rfl
theorem upB_ne {α : Type} {f : Bool → α} {b c : Bool} {x : α} (h : c ≠ b) : upB f b x c = f c := if_neg h
def upH {α : Type} (f : Bool → Bool → α) (g k : Bool) (x : α) : Bool → Bool → α := fun g' k' => if g' = g ∧ k' = k then x else f g' k'
theorem upH_same {α : Type} {f : Bool → Bool → α} {g k : Bool} {x : α} : upH f g k x g k = x := if_pos ⟨rfl, rfl⟩

@[ext] structure ME where
  waits : Bool
  cnt : Bool → Int
  inn : Bool → List Packet
  resets : Nat
  hist : Bool → Bool → List (List Packet)
@[ext] structure ML where
  e : Bool → ME
  q : Bool → List Item

def addLast (rows : List (List Packet)) (p : Packet) : List (List Packet) := rows.set (rows.length - 1) (rows.getD (rows.length - 1) [] ++ [p])
def ME.fresh : ME := ⟨false, fun _ => 0, fun _ => [], 0, fun _ _ => [[]]⟩
def ME.clear (e : ME) : ME := { e with inn := fun _ => [] }
def ME.anew (e : ME) : ME := ⟨false, fun _ => 0, e.inn, e.resets + 1, fun g k => e.hist g k ++ [[]]⟩
def ME.note (e : ME) (g k : Bool) (p : Packet) : ME := { e with hist := upH e.hist g k (addLast (e.hist g k) p) }
def ME.setWaits (e : ME) (b : Bool) : ME := { e with waits := b }
def ME.addCnt (e : ME) (k : Bool) (z : Int) : ME := { e with cnt := upB e.cnt k (e.cnt k + z) }
def ME.setInn (e : ME) (k : Bool) (l : List Packet) : ME := { e with inn := upB e.inn k l }

def ML.fresh : ML := ⟨fun _ => ME.fresh, fun _ => []⟩
def ML.setE (m : ML) (s : Bool) (e : ME) : ML := { m with e := upB m.e s e }
def ML.setQ (m : ML) (s : Bool) (l : List Item) : ML := { m with q := upB m.q s l }
def ML.put (m : ML) (s : Bool) (i : Item) : ML := m.setQ (!s) (m.q (!s) ++ [i])
def ML.canSend (m : ML) (s k : Bool) (w : Nat) : Bool := !(m.e s).waits && decide ((m.e s).cnt k < ((room w k : Nat) : Int))
def ML.send (m : ML) (s k : Bool) (p : Packet) : ML := (m.setE s (((m.e s).addCnt k 1).note false k p)).put s (.data k p)
def ML.took (m : ML) (s k : Bool) : ML := (m.setE s ((m.e s).setInn k ((m.e s).inn k).tail)).put s (.credit k)
def ML.reset (m : ML) (s : Bool) : ML := if (m.e s).waits then m else (m.setE s ((m.e s).clear.setWaits true)).put s .reset
/-- what an item does at the end s, m without the item -/
def ML.come (m : ML) (s : Bool) : Item → ML × Bool
  | .data k p => if (m.e s).waits then (m, false) else (m.setE s (((m.e s).setInn k ((m.e s).inn k ++ [p])).note true k p), false)
  | .credit k => if (m.e s).waits then (m, false) else (m.setE s ((m.e s).addCnt k (-1)), false)
  | _ => if (m.e s).waits then (m.setE s (m.e s).anew, false) else ((m.setE s (m.e s).clear.anew).put s .confirm, true)
def ML.arrive (m : ML) (s : Bool) : ML × Bool := match m.q s with
  | [] => (m, false)
  | i :: r => (m.setQ s r).come s i

/-! ### the specification's ends and links as such -/
def absE (e : End) : ME := ⟨e.resetting, fun k => ((packets k (now e.sent)).length : Int) - (credits k (now e.got) : Int), fun k => e.box k, e.got.length - 1, fun g k => ((if g then e.got else e.sent).map (packets k)).reverse⟩
def absL (l : Link) : ML := ⟨fun s => absE (if s then l.right else l.left), fun d => if d then l.lr else l.rl⟩
def flipM (m : ML) : ML := ⟨fun s => m.e (!s), fun d => m.q (!d)⟩
theorem absL_flip (l : Link) : absL l.flip = flipM (absL l) := by
  ext1
  · funext s; cases s <;> rfl
  · funext s; cases s <;> rfl
theorem flipM_flipM (m : ML) : flipM (flipM m) = m := by
  ext1 <;> funext s <;> simp [flipM]
theorem absE_fresh : absE freshEnd = ME.fresh := by
  have h1 : ∀ k, (freshEnd.box k) = [] := fun k => by cases k <;> rfl
  unfold absE ME.fresh
  congr 1
  · funext k; cases k <;> rfl
  · funext g k; cases g <;> cases k <;> rfl
theorem absL_fresh : absL freshLink = ML.fresh := by
  ext1
  · funext s; cases s <;> exact absE_fresh
  · funext s; cases s <;> rfl
theorem box_setBox (e : End) (u k : Bool) (l : List Packet) : (e.setBox u l).box k = if k = u then l else e.box k := by
  cases u <;> cases k <;> rfl
theorem setBox_rest (e : End) (u : Bool) (l : List Packet) : (e.setBox u l).resetting = e.resetting ∧ (e.setBox u l).sent = e.sent ∧ (e.setBox u l).got = e.got := by
  cases u <;> exact ⟨rfl, rfl, rfl⟩
theorem absE_setBox (e : End) (u : Bool) (l : List Packet) : absE (e.setBox u l) = (absE e).setInn u l := by
  obtain ⟨h1, h2, h3⟩ := setBox_rest e u l
  ext1
  · exact h1
  · show (fun k => ((packets k (now (e.setBox u l).sent)).length : Int) - (credits k (now (e.setBox u l).got) : Int)) = _
    rw [h2, h3]; rfl
  · funext k
    exact box_setBox e u k l
  · show (e.setBox u l).got.length - 1 = _
    rw [h3]; rfl
  · show (fun (g k : Bool) => ((if g = true then (e.setBox u l).got else (e.setBox u l).sent).map (packets k)).reverse) = _
    rw [h2, h3]; rfl

theorem packets_app (k : Bool) (l m : List Item) : packets k (l ++ m) = packets k l ++ packets k m := List.filterMap_append ..
theorem credits_app (k : Bool) (l m : List Item) : credits k (l ++ m) = credits k l + credits k m := by
  unfold credits; rw [List.filter_append, List.length_append]
theorem addLast_reverse (x : List Packet) (r : List (List Packet)) (p : Packet) : addLast ((x :: r).reverse) p = ((x ++ [p]) :: r).reverse := by
  unfold addLast
  rw [List.reverse_cons, List.reverse_cons, List.length_append, List.length_reverse, List.length_singleton, Nat.add_sub_cancel]
  rw [List.getD_eq_getElem?_getD]
  rw [List.getElem?_append_right (by simp)]
  simp
theorem now_addNow {l : List (List Item)} (i : Item) (h : l ≠ []) : now (addNow l i) = now l ++ [i] := by
  cases l with
  | nil => exact absurd rfl h
  | cons x r => rfl
theorem rows_addNow_data {l : List (List Item)} (k : Bool) (p : Packet) (h : l ≠ []) : ((addNow l (.data k p)).map (packets k)).reverse = addLast ((l.map (packets k)).reverse) p := by
  cases l with
  | nil => exact absurd rfl h
  | cons x r =>
    rw [List.map_cons, addLast_reverse]
    show (packets k (x ++ [.data k p]) :: r.map (packets k)).reverse = _
    rw [packets_app]
    have e : packets k [Item.data k p] = [p] := by simp [packets, packetOf]
    rw [e]
theorem rows_addNow_other {l : List (List Item)} (k : Bool) (i : Item) (h : packetOf k i = none) (hn : l ≠ []) : ((addNow l i).map (packets k)).reverse = (l.map (packets k)).reverse := by
  cases l with
  | nil => exact absurd rfl hn
  | cons x r =>
    show (packets k (x ++ [i]) :: r.map (packets k)).reverse = _
    rw [packets_app]
    have e : packets k [i] = [] := by simp [packets, h]
    rw [e, List.append_nil]; rfl
theorem packetOf_ne {u k : Bool} (p : Packet) (h : ¬ u = k) : packetOf k (.data u p) = none := by
  show (if u == k then some p else none) = none
  rw [if_neg (by simpa using h)]
theorem credits_one (k : Bool) (i : Item) : credits k [i] = if isCredit k i then 1 else 0 := by
  unfold credits
  rw [List.filter_cons]
  cases isCredit k i <;> rfl

/-- an end's data are whole: there is a list of now -/
structure EWf (e : End) : Prop where
  s : e.sent ≠ []
  g : e.got ≠ []

theorem absE_sent (e : End) (w : EWf e) (u : Bool) (p : Packet) : absE { e with sent := addNow e.sent (.data u p) } = ((absE e).addCnt u 1).note false u p := by
  ext1
  · rfl
  · funext k
    show ((packets k (now (addNow e.sent (.data u p)))).length : Int) - (credits k (now e.got) : Int) = (if k = u then _ else _)
    rw [now_addNow _ w.s, packets_app]
    by_cases h : k = u
    · subst h
      have e1 : packets k [Item.data k p] = [p] := by simp [packets, packetOf]
      rw [if_pos rfl, e1]
      show _ = ((packets k (now e.sent)).length : Int) - (credits k (now e.got) : Int) + 1
      rw [List.length_append, List.length_singleton]
      omega
    · rw [if_neg h]
      have e1 : packets k [Item.data u p] = [] := by
        simp only [packets, packetOf, List.filterMap_cons, List.filterMap_nil]
        rw [if_neg (by simpa using fun z => h z.symm)]
      rw [e1, List.append_nil]; rfl
  · rfl
  · rfl
  · funext g k
    cases g with
    | true =>
      show ((e.got).map (packets k)).reverse = upH (absE e).hist false u (addLast ((e.sent.map (packets u)).reverse) p) true k
      unfold upH
      rw [if_neg (by simp)]; rfl
    | false =>
      show ((addNow e.sent (.data u p)).map (packets k)).reverse = upH (absE e).hist false u (addLast ((e.sent.map (packets u)).reverse) p) false k
      unfold upH
      by_cases h : k = u
      · subst h
        rw [if_pos ⟨rfl, rfl⟩]
        exact rows_addNow_data k p w.s
      · rw [if_neg (fun z => h z.2)]
        exact rows_addNow_other k (.data u p) (packetOf_ne p (fun z => h z.symm)) w.s
/-- a credit that is sent is not seen in the end's own data -/
theorem absE_sent_credit (e : End) (w : EWf e) (u : Bool) : absE { e with sent := addNow e.sent (.credit u) } = absE e := by
  have np : ∀ k, packetOf k (Item.credit u) = none := fun k => rfl
  ext1
  · rfl
  · funext k
    show ((packets k (now (addNow e.sent (.credit u)))).length : Int) - (credits k (now e.got) : Int) = _
    rw [now_addNow _ w.s, packets_app]
    have e1 : packets k [Item.credit u] = [] := rfl
    rw [e1, List.append_nil]; rfl
  · rfl
  · rfl
  · funext g k
    show ((if g then e.got else addNow e.sent (.credit u)).map (packets k)).reverse = _
    cases g with
    | true => rfl
    | false => exact rows_addNow_other k _ rfl w.s
theorem addNow_len {l : List (List Item)} (i : Item) (h : l ≠ []) : (addNow l i).length = l.length := by
  cases l with
  | nil => exact absurd rfl h
  | cons x r => rfl
theorem absE_gets_data (e : End) (w : EWf e) (u : Bool) (p : Packet) : absE (e.gets (.data u p)) = (absE e).note true u p := by
  ext1
  · rfl
  · funext k
    show ((packets k (now e.sent)).length : Int) - (credits k (now (addNow e.got (.data u p))) : Int) = _
    rw [now_addNow _ w.g, credits_app, credits_one]; rfl
  · rfl
  · show (addNow e.got (.data u p)).length - 1 = _
    rw [addNow_len _ w.g]; rfl
  · funext g k
    cases g with
    | false =>
      show ((e.sent).map (packets k)).reverse = upH (absE e).hist true u (addLast ((e.got.map (packets u)).reverse) p) false k
      unfold upH
      rw [if_neg (by simp)]; rfl
    | true =>
      show ((addNow e.got (.data u p)).map (packets k)).reverse = upH (absE e).hist true u (addLast ((e.got.map (packets u)).reverse) p) true k
      unfold upH
      by_cases h : k = u
      · subst h
        rw [if_pos ⟨rfl, rfl⟩]
        exact rows_addNow_data k p w.g
      · rw [if_neg (fun z => h z.2)]
        exact rows_addNow_other k (.data u p) (packetOf_ne p (fun z => h z.symm)) w.g
theorem absE_gets_credit (e : End) (w : EWf e) (u : Bool) : absE (e.gets (.credit u)) = (absE e).addCnt u (-1) := by
  ext1
  · rfl
  · funext k
    show ((packets k (now e.sent)).length : Int) - (credits k (now (addNow e.got (.credit u))) : Int) = (if k = u then _ else _)
    rw [now_addNow _ w.g, credits_app, credits_one]
    by_cases h : k = u
    · subst h
      rw [if_pos rfl]
      show _ = ((packets k (now e.sent)).length : Int) - (credits k (now e.got) : Int) + -1
      have e1 : isCredit k (.credit k) = true := by simp [isCredit]
      rw [e1]
      simp only [if_true]
      omega
    · rw [if_neg h]
      have e1 : isCredit k (.credit u) = false := by simpa [isCredit] using fun z => h z.symm
      rw [e1]; rfl
  · rfl
  · show (addNow e.got (.credit u)).length - 1 = _
    rw [addNow_len _ w.g]; rfl
  · funext g k
    show ((if g then addNow e.got (.credit u) else e.sent).map (packets k)).reverse = _
    cases g with
    | false => rfl
    | true => exact rows_addNow_other k _ rfl w.g
theorem absE_begin (e : End) : absE e.begin = (absE e).clear.setWaits true := by
  ext1
  · rfl
  · rfl
  · funext k; cases k <;> rfl
  · rfl
  · rfl
theorem absE_done (e : End) (w : EWf e) : absE e.done = (absE e).clear.anew := by
  ext1
  · rfl
  · funext k; cases k <;> rfl
  · funext k; cases k <;> rfl
  · show ([] :: e.got).length - 1 = e.got.length - 1 + 1
    have h := List.length_pos_iff.mpr w.g
    rw [List.length_cons]; omega
  · funext g k
    cases g
    · show (([] :: e.sent).map (packets k)).reverse = (e.sent.map (packets k)).reverse ++ [[]]
      rw [List.map_cons, List.reverse_cons]; rfl
    · show (([] :: e.got).map (packets k)).reverse = (e.got.map (packets k)).reverse ++ [[]]
      rw [List.map_cons, List.reverse_cons]; rfl
/-- where the inboxes are empty clear does nothing -/
theorem clear_of (e : ME) (h : ∀ k, e.inn k = []) : e.clear = e := by
  ext1 <;> first | rfl | (funext k; exact (h k).symm)

/-! ### links -/
theorem setE_e (m : ML) (s t : Bool) (e : ME) : (m.setE s e).e t = if t = s then e else m.e t := rfl
theorem absL_left (l : Link) (e : End) : absL { l with left := e } = (absL l).setE false (absE e) := by
  ext1
  · funext s; cases s <;> rfl
  · rfl
theorem absL_right (l : Link) (e : End) : absL { l with right := e } = (absL l).setE true (absE e) := by
  ext1
  · funext s; cases s <;> rfl
  · rfl
theorem absL_lr (l : Link) (q : List Item) : absL { l with lr := q } = (absL l).setQ true q := by
  ext1
  · rfl
  · funext s; cases s <;> rfl
theorem absL_rl (l : Link) (q : List Item) : absL { l with rl := q } = (absL l).setQ false q := by
  ext1
  · rfl
  · funext s; cases s <;> rfl
structure LWf (k : Link) : Prop where
  l : EWf k.left
  r : EWf k.right
theorem absL_data (l : Link) (w : LWf l) (u : Bool) (p : Packet) : absL (l.put (.data u p)) = (absL l).send false u p := by
  ext1
  · funext s
    cases s with
    | true => rfl
    | false => exact absE_sent l.left w.l u p
  · funext s; cases s <;> rfl
theorem absL_take (l : Link) (w : LWf l) (u : Bool) {p : Packet} {r : List Packet} (h : l.left.box u = p :: r) : l.take u = some (p, (({ l with left := l.left.setBox u r } : Link).put (.credit u))) ∧ absL (({ l with left := l.left.setBox u r } : Link).put (.credit u)) = (absL l).took false u := by
  refine ⟨by unfold Link.take; rw [h], ?_⟩
  have w2 : EWf (l.left.setBox u r) := by
    obtain ⟨h1, h2, h3⟩ := setBox_rest l.left u r
    exact ⟨by rw [h2]; exact w.l.s, by rw [h3]; exact w.l.g⟩
  ext1
  · funext s
    cases s with
    | true => rfl
    | false =>
      show absE { l.left.setBox u r with sent := addNow (l.left.setBox u r).sent (.credit u) } = (absE l.left).setInn u ((l.left.box u).tail)
      rw [absE_sent_credit _ w2, absE_setBox, h]; rfl
  · funext s; cases s <;> rfl
theorem take_none (l : Link) (u : Bool) (h : l.left.box u = []) : l.take u = none := by
  unfold Link.take; rw [h]
theorem absL_reset (l : Link) : absL l.startReset = (absL l).reset false := by
  unfold Link.startReset ML.reset
  show absL (if l.left.resetting = true then l else _) = (if l.left.resetting = true then _ else _)
  by_cases h : l.left.resetting = true
  · rw [if_pos h, if_pos h]
  · rw [if_neg h, if_neg h]
    ext1
    · funext s
      cases s with
      | true => rfl
      | false => exact absE_begin l.left
    · funext s; cases s <;> rfl
/-- an item arrives at the right end; a: an end that waits has empty inboxes; a confirmation comes only to an end that waits -/
theorem absL_deliver (l : Link) (w : LWf l) (a : l.right.resetting = true → ∀ k, l.right.box k = []) {i : Item} {q : List Item} (h : l.lr = i :: q) (c : i = .confirm → l.right.resetting = true) :
    ∃ x : Link × Bool, l.deliver = some x ∧ ((absL x.1, x.2) : ML × Bool) = (absL l).arrive true := by
  have hq : (absL l).q true = i :: q := h
  have ha : (absL l).arrive true = ((absL l).setQ true q).come true i := by unfold ML.arrive; rw [hq]
  have hw : (((absL l).setQ true q).e true).waits = l.right.resetting := rfl
  have done : absE l.right.done = (absE l.right).clear.anew := absE_done _ w.r
  have doneW : l.right.resetting = true → absE l.right.done = (absE l.right).anew := fun z => by
    rw [done, clear_of _ (fun k => a z k)]
  rw [ha]
  cases i with
  | data u p =>
    unfold Link.deliver ML.come
    rw [h, hw]
    cases hr : l.right.resetting with
    | true => exact ⟨_, rfl, by simp only [if_true]; rw [absL_lr]⟩
    | false =>
      refine ⟨_, rfl, ?_⟩
      simp only [Bool.false_eq_true, if_false, Prod.mk.injEq, and_true]
      ext1
      · funext s
        cases s with
        | false => rfl
        | true =>
          show absE ((l.right.gets (.data u p)).setBox u (l.right.box u ++ [p])) = (((absE l.right).setInn u (l.right.box u ++ [p])).note true u p)
          rw [absE_setBox, absE_gets_data _ w.r]; rfl
      · funext s; cases s <;> rfl
  | credit u =>
    unfold Link.deliver ML.come
    rw [h, hw]
    cases hr : l.right.resetting with
    | true => exact ⟨_, rfl, by simp only [if_true]; rw [absL_lr]⟩
    | false =>
      refine ⟨_, rfl, ?_⟩
      simp only [Bool.false_eq_true, if_false, Prod.mk.injEq, and_true]
      ext1
      · funext s
        cases s with
        | false => rfl
        | true => exact absE_gets_credit _ w.r u
      · funext s; cases s <;> rfl
  | reset =>
    unfold Link.deliver ML.come
    rw [h, hw]
    cases hr : l.right.resetting with
    | true =>
      refine ⟨_, rfl, ?_⟩
      simp only [if_true, Prod.mk.injEq, and_true]
      ext1
      · funext s
        cases s with
        | false => rfl
        | true => exact doneW hr
      · funext s; cases s <;> rfl
    | false =>
      refine ⟨_, rfl, ?_⟩
      simp only [Bool.false_eq_true, if_false, Prod.mk.injEq, and_true]
      ext1
      · funext s
        cases s with
        | false => rfl
        | true => exact done
      · funext s; cases s <;> rfl
  | confirm =>
    have hr := c rfl
    unfold Link.deliver ML.come
    rw [h, hw, hr]
    refine ⟨_, rfl, ?_⟩
    simp only [if_true, Prod.mk.injEq]
    refine ⟨?_, rfl⟩
    ext1
    · funext s
      cases s with
      | false => rfl
      | true => exact doneW hr
    · funext s; cases s <;> rfl
end Rl
end
section
set_option linter.all false
/-! RlM2: what holds of every link that can come up: markers, credits, empty inboxes. -/
namespace Rl
open R7251g.Spec

def isMark : Item → Bool
  | .reset => true
  | .confirm => true
  | _ => false
def isConf : Item → Bool
  | .confirm => true
  | _ => false
def isData (k : Bool) : Item → Bool
  | .data v _ => v == k
  | _ => false
def marks (l : List Item) : Nat := (l.filter isMark).length
def datas (k : Bool) (l : List Item) : Nat := (l.filter (isData k)).length
/-- the part ahead of the first marker, and behind it -/
def ahead : List Item → List Item
  | [] => []
  | i :: r => if isMark i then [] else i :: ahead r
def behind : List Item → List Item
  | [] => []
  | i :: r => if isMark i then r else behind r
theorem marks_app (a b : List Item) : marks (a ++ b) = marks a + marks b := by unfold marks; rw [List.filter_append, List.length_append]
theorem datas_app (k : Bool) (a b : List Item) : datas k (a ++ b) = datas k a + datas k b := by unfold datas; rw [List.filter_append, List.length_append]
theorem marks_cons (i : Item) (l : List Item) : marks (i :: l) = (if isMark i then 1 else 0) + marks l := by
  unfold marks; rw [List.filter_cons]; cases isMark i <;> simp <;> omega
theorem datas_cons (k : Bool) (i : Item) (l : List Item) : datas k (i :: l) = (if isData k i then 1 else 0) + datas k l := by
  unfold datas; rw [List.filter_cons]; cases isData k i <;> simp <;> omega
theorem credits_cons (k : Bool) (i : Item) (l : List Item) : credits k (i :: l) = (if isCredit k i then 1 else 0) + credits k l := by
  unfold credits; rw [List.filter_cons]; cases isCredit k i <;> simp <;> omega
theorem ahead_none {l : List Item} (h : marks l = 0) : ahead l = l := by
  induction l with
  | nil => rfl
  | cons i r ih =>
    rw [marks_cons] at h
    unfold ahead
    cases hi : isMark i with
    | true => rw [hi] at h; simp at h
    | false => rw [hi] at h; simp at h ⊢; exact ih h
theorem ahead_app {l m : List Item} (h : marks l ≠ 0) : ahead (l ++ m) = ahead l := by
  induction l with
  | nil => exact absurd rfl h
  | cons i r ih =>
    rw [marks_cons] at h
    show (if isMark i = true then [] else i :: ahead (r ++ m)) = (if isMark i = true then [] else i :: ahead r)
    cases hi : isMark i with
    | true => rfl
    | false => rw [hi] at h; simp at h; simp; exact ih h
theorem ahead_snoc_mark {l : List Item} {i : Item} (h : isMark i = true) : ahead (l ++ [i]) = ahead l := by
  induction l with
  | nil => show (if isMark i = true then [] else i :: ahead []) = []; rw [if_pos h]
  | cons j r ih =>
    show (if isMark j = true then [] else j :: ahead (r ++ [i])) = (if isMark j = true then [] else j :: ahead r)
    rw [ih]
theorem behind_app {l m : List Item} (h : marks l ≠ 0) : behind (l ++ m) = behind l ++ m := by
  induction l with
  | nil => exact absurd rfl h
  | cons i r ih =>
    rw [marks_cons] at h
    show (if isMark i = true then r ++ m else behind (r ++ m)) = (if isMark i = true then r else behind r) ++ m
    cases hi : isMark i with
    | true => rfl
    | false => rw [hi] at h; simp at h; simp; exact ih h
theorem behind_snoc_mark {l : List Item} {i : Item} (h : isMark i = true) (hl : marks l = 0) : behind (l ++ [i]) = [] := by
  induction l with
  | nil => show (if isMark i = true then [] else behind []) = []; rw [if_pos h]
  | cons j r ih =>
    rw [marks_cons] at hl
    show (if isMark j = true then r ++ [i] else behind (r ++ [i])) = []
    cases hj : isMark j with
    | true => rw [hj] at hl; simp at hl
    | false => rw [hj] at hl; simp at hl; simp; exact ih hl
theorem ahead_le (k : Bool) (l : List Item) : credits k (ahead l) ≤ credits k l := by
  induction l with
  | nil => exact Nat.le_refl _
  | cons i r ih =>
    unfold ahead
    rw [credits_cons]
    cases isMark i with
    | true => simp [credits]
    | false => simp; rw [credits_cons]; omega

/-- how many packets of a kind an end has sent and no credit for: the whole number -/
def bal (e : End) (k : Bool) : Int := ((packets k (now e.sent)).length : Int) - (credits k (now e.got) : Int)

/-- seen from the left end (the other half is the same of l.flip) -/
structure Half (l : Link) : Prop where
  /-- while this end waits its inboxes are empty -/
  box : l.left.resetting = true → ∀ k, l.left.box k = []
  /-- and the last thing that it has put is its reset -/
  last : l.left.resetting = true → l.lr = [] ∨ ∃ q, l.lr = q ++ [.reset]
  /-- a confirmation under way to an end: that end waits -/
  conf : l.left.resetting = false → l.rl.any isConf = false
  /-- the credits that this end may count are covered -/
  cov1 : l.left.resetting = false → l.right.resetting = false → ∀ k, ((credits k l.rl + (l.right.box k).length + datas k l.lr : Nat) : Int) ≤ bal l.left k
  cov2 : l.left.resetting = false → l.right.resetting = true → ∀ k, ((credits k (ahead l.rl) : Nat) : Int) ≤ bal l.left k
  cov3 : l.left.resetting = false → marks l.lr ≠ 0 → ∀ k, ((datas k (behind l.lr) : Nat) : Int) ≤ bal l.left k
  /-- what the other end has put behind its marker holds no credits -/
  new : l.left.resetting = true → marks l.lr = 0 → (∀ k, l.right.box k = []) ∧ ∀ k, credits k (behind l.rl) = 0
  /-- the count never falls below 0 -/
  pos : ∀ k, 0 ≤ bal l.left k
structure LInv (l : Link) : Prop where
  wf : LWf l
  sum : marks l.lr + marks l.rl = (if l.left.resetting then 1 else 0) + (if l.right.resetting then 1 else 0)
  a : Half l
  b : Half l.flip

theorem LInv.flip {l : Link} (h : LInv l) : LInv l.flip :=
  ⟨⟨h.wf.r, h.wf.l⟩, by show marks l.rl + marks l.lr = _ + _; have := h.sum; show _ = (if l.right.resetting then 1 else 0) + (if l.left.resetting then 1 else 0); omega, h.b, h.a⟩
theorem half_fresh : Half freshLink := by
  refine ⟨fun z => Bool.noConfusion z, fun z => Bool.noConfusion z, fun _ => rfl, fun _ _ k => ?_, fun _ z => Bool.noConfusion z, fun _ z => absurd rfl z, fun z => Bool.noConfusion z, fun k => ?_⟩
  · cases k <;> decide
  · cases k <;> decide
theorem LInv.fresh : LInv freshLink := ⟨⟨⟨by simp [freshLink, freshEnd], by simp [freshLink, freshEnd]⟩, ⟨by simp [freshLink, freshEnd], by simp [freshLink, freshEnd]⟩⟩, rfl, half_fresh, half_fresh⟩

theorem open_eq {l : Link} (h : LInv l) (k : Bool) : ((l.left.open k : Nat) : Int) = bal l.left k := by
  have h1 := h.a.pos k
  unfold End.open bal at *
  omega

/-! ### the left end sends a packet -/
theorem bal_sent (e : End) (w : EWf e) (u : Bool) (p : Packet) (k : Bool) : bal { e with sent := addNow e.sent (.data u p) } k = bal e k + (if u = k then 1 else 0) := by
  unfold bal
  show ((packets k (now (addNow e.sent (.data u p)))).length : Int) - _ = _
  rw [now_addNow _ w.s, packets_app, List.length_append]
  by_cases h : u = k
  · subst h
    have e1 : packets u [Item.data u p] = [p] := by simp [packets, packetOf]
    rw [e1, if_pos rfl]
    simp only [List.length_singleton]; omega
  · have e1 : packets k [Item.data u p] = [] := by simp [packets, packetOf_ne p h]
    rw [e1, if_neg h]
    simp only [List.length_nil]; omega
theorem bal_sent_credit (e : End) (w : EWf e) (u k : Bool) : bal { e with sent := addNow e.sent (.credit u) } k = bal e k := by
  unfold bal
  show ((packets k (now (addNow e.sent (.credit u)))).length : Int) - _ = _
  rw [now_addNow _ w.s, packets_app, List.length_append]
  have e1 : packets k [Item.credit u] = [] := rfl
  rw [e1]; simp
theorem bal_got_data (e : End) (w : EWf e) (u : Bool) (p : Packet) (k : Bool) : bal (e.gets (.data u p)) k = bal e k := by
  unfold bal
  show _ - (credits k (now (addNow e.got (.data u p))) : Int) = _
  rw [now_addNow _ w.g, credits_app, credits_one]
  show _ - ((credits k (now e.got) + (if isCredit k (.data u p) = true then 1 else 0) : Nat) : Int) = _
  have e1 : isCredit k (.data u p) = false := rfl
  rw [e1, if_neg Bool.false_ne_true, Nat.add_zero]; rfl
theorem bal_got_credit (e : End) (w : EWf e) (u k : Bool) : bal (e.gets (.credit u)) k = bal e k - (if u = k then 1 else 0) := by
  unfold bal
  show _ - (credits k (now (addNow e.got (.credit u))) : Int) = _
  rw [now_addNow _ w.g, credits_app, credits_one]
  have e1 : isCredit k (.credit u) = decide (u = k) := by simp [isCredit]; cases u <;> cases k <;> rfl
  rw [e1]
  show ((packets k (now e.sent)).length : Int) - ((credits k (now e.got) + (if decide (u = k) = true then 1 else 0) : Nat) : Int) = _
  by_cases h : u = k
  · rw [if_pos (by simpa using h), if_pos h]; omega
  · rw [if_neg (by simpa using h), if_neg h]; omega
theorem bal_setBox (e : End) (u : Bool) (l : List Packet) (k : Bool) : bal (e.setBox u l) k = bal e k := by
  obtain ⟨h1, h2, h3⟩ := setBox_rest e u l
  unfold bal; rw [h2, h3]
theorem bal_done (e : End) (k : Bool) : bal e.done k = 0 := by
  unfold bal
  show ((packets k ([] : List Item)).length : Int) - (credits k ([] : List Item) : Int) = 0
  simp [packets, credits]
theorem bal_begin (e : End) (k : Bool) : bal e.begin k = bal e k := rfl
theorem box_done (e : End) (k : Bool) : e.done.box k = [] := by cases k <;> rfl
theorem box_begin (e : End) (k : Bool) : e.begin.box k = [] := by cases k <;> rfl
theorem box_gets (e : End) (i : Item) (k : Bool) : (e.gets i).box k = e.box k := by cases k <;> rfl
theorem any_conf_app (a b : List Item) : (a ++ b).any isConf = (a.any isConf || b.any isConf) := List.any_append
theorem isData_data (u k : Bool) (p : Packet) : isData k (.data u p) = decide (u = k) := by
  show (u == k) = _; cases u <;> cases k <;> rfl
theorem isCredit_credit (u k : Bool) : isCredit k (.credit u) = decide (u = k) := by
  show (u == k) = _; cases u <;> cases k <;> rfl
theorem credits_ahead_zero (k : Bool) : credits k (ahead []) = 0 := rfl

theorem inv_send {l : Link} (h : LInv l) (hr : l.left.resetting = false) (u : Bool) (p : Packet) : LInv (l.put (.data u p)) := by
  have hs := h.sum
  rw [hr] at hs
  simp only [Bool.false_eq_true, if_false, Nat.zero_add] at hs
  refine ⟨⟨⟨?_, h.wf.l.g⟩, h.wf.r⟩, ?_, ?_, ?_⟩
  · show addNow l.left.sent (Item.data u p) ≠ []
    have := h.wf.l.s
    cases hh : l.left.sent with
    | nil => exact absurd hh this
    | cons x r => simp [addNow]
  · show marks (l.lr ++ [Item.data u p]) + marks l.rl = (if l.left.resetting then 1 else 0) + _
    rw [marks_app, hr]
    show marks l.lr + 0 + _ = _
    simp only [Bool.false_eq_true, if_false, Nat.zero_add]
    exact hs
  · refine ⟨fun z => ?_, fun z => ?_, fun _ => h.a.conf hr, fun _ z k => ?_, fun _ z k => ?_, fun _ z k => ?_, fun z => ?_, fun k => ?_⟩
    · have z : l.left.resetting = true := z
      rw [hr] at z; cases z
    · have z : l.left.resetting = true := z
      rw [hr] at z; cases z
    · show ((credits k l.rl + (l.right.box k).length + datas k (l.lr ++ [.data u p]) : Nat) : Int) ≤ bal { l.left with sent := addNow l.left.sent (.data u p) } k
      rw [bal_sent _ h.wf.l, datas_app]
      have q := h.a.cov1 hr z k
      have e : datas k [.data u p] = if u = k then 1 else 0 := by
        rw [datas_cons, isData_data]; by_cases hk : u = k <;> simp [hk, datas]
      rw [e]
      by_cases hk : u = k <;> simp [hk] <;> omega
    · show ((credits k (ahead l.rl) : Nat) : Int) ≤ bal { l.left with sent := addNow l.left.sent (.data u p) } k
      rw [bal_sent _ h.wf.l]
      have q := h.a.cov2 hr z k
      by_cases hk : u = k <;> simp [hk] <;> omega
    · have z : marks (l.lr ++ [Item.data u p]) ≠ 0 := z
      rw [marks_app] at z
      have z2 : marks l.lr ≠ 0 := z
      show ((datas k (behind (l.lr ++ [.data u p])) : Nat) : Int) ≤ bal { l.left with sent := addNow l.left.sent (.data u p) } k
      rw [behind_app z2, datas_app, bal_sent _ h.wf.l]
      have q := h.a.cov3 hr z2 k
      have e : datas k [.data u p] = if u = k then 1 else 0 := by
        rw [datas_cons, isData_data]; by_cases hk : u = k <;> simp [hk, datas]
      rw [e]
      by_cases hk : u = k <;> simp [hk] <;> omega
    · have z : l.left.resetting = true := z
      rw [hr] at z; cases z
    · show 0 ≤ bal { l.left with sent := addNow l.left.sent (.data u p) } k
      rw [bal_sent _ h.wf.l]
      have q := h.a.pos k
      by_cases hk : u = k <;> simp [hk] <;> omega
  · refine ⟨h.b.box, h.b.last, fun z => ?_, fun z _ k => ?_, fun z y k => ?_, h.b.cov3, fun z y => ?_, h.b.pos⟩
    · show (l.lr ++ [Item.data u p]).any isConf = false
      rw [any_conf_app]
      have q : l.lr.any isConf = false := h.b.conf z
      rw [q]; rfl
    · show ((credits k (l.lr ++ [.data u p]) + (l.left.box k).length + datas k l.rl : Nat) : Int) ≤ bal l.right k
      have q : ((credits k l.lr + (l.left.box k).length + datas k l.rl : Nat) : Int) ≤ bal l.right k := h.b.cov1 z hr k
      rw [credits_app]
      exact q
    · have y : l.left.resetting = true := y
      rw [hr] at y; cases y
    · -- the right end waits, nothing marked on its way
      have z : l.right.resetting = true := z
      have y : marks l.rl = 0 := y
      rw [z, y] at hs
      simp only [if_true, Nat.add_zero] at hs
      obtain ⟨q1, q2⟩ := h.b.new z y
      refine ⟨q1, fun k => ?_⟩
      show credits k (behind (l.lr ++ [.data u p])) = 0
      rw [behind_app (by omega), credits_app]
      have q2' : credits k (behind l.lr) = 0 := q2 k
      rw [q2']; rfl

/-! ### the left end takes a packet -/
theorem inv_take {l : Link} (h : LInv l) (u : Bool) {p : Packet} {r : List Packet} (hb : l.left.box u = p :: r) : LInv (({ l with left := l.left.setBox u r } : Link).put (.credit u)) := by
  obtain ⟨b1, b2, b3⟩ := setBox_rest l.left u r
  have hr : l.left.resetting = false := by
    cases z : l.left.resetting with
    | false => rfl
    | true =>
      have := h.a.box z u
      rw [hb] at this; cases this
  have w2 : EWf (l.left.setBox u r) := ⟨by rw [b2]; exact h.wf.l.s, by rw [b3]; exact h.wf.l.g⟩
  have hs := h.sum
  rw [hr] at hs
  simp only [Bool.false_eq_true, if_false, Nat.zero_add] at hs
  have hbox : ∀ k, ((l.left.setBox u r).box k).length + (if u = k then 1 else 0) = (l.left.box k).length := fun k => by
    rw [box_setBox]
    by_cases e : k = u
    · subst e; rw [if_pos rfl, if_pos rfl, hb]; rfl
    · rw [if_neg e, if_neg (fun z => e z.symm)]; rfl
  have hbal : ∀ k, bal { l.left.setBox u r with sent := addNow (l.left.setBox u r).sent (.credit u) } k = bal l.left k := fun k => by
    rw [bal_sent_credit _ w2, bal_setBox]
  have hbox2 : ∀ k, (({ l.left.setBox u r with sent := addNow (l.left.setBox u r).sent (.credit u) } : End).box k) = (l.left.setBox u r).box k := fun k => by cases k <;> rfl
  refine ⟨⟨⟨?_, w2.g⟩, h.wf.r⟩, ?_, ?_, ?_⟩
  · show addNow (l.left.setBox u r).sent (Item.credit u) ≠ []
    have := w2.s
    cases hh : (l.left.setBox u r).sent with
    | nil => exact absurd hh this
    | cons x r => simp [addNow]
  · show marks (l.lr ++ [Item.credit u]) + marks l.rl = (if (l.left.setBox u r).resetting then 1 else 0) + _
    rw [marks_app, b1, hr]
    show marks l.lr + 0 + _ = _
    simp only [Bool.false_eq_true, if_false, Nat.zero_add]
    exact hs
  · have no : ∀ {P : Prop}, (l.left.setBox u r).resetting = true → P := fun z => by rw [b1, hr] at z; cases z
    refine ⟨fun z => no z, fun z => no z, fun _ => h.a.conf hr, fun _ z k => ?_, fun _ z k => ?_, fun _ z k => ?_, fun z => no z, fun k => ?_⟩
    · show ((credits k l.rl + (l.right.box k).length + datas k (l.lr ++ [.credit u]) : Nat) : Int) ≤ bal { l.left.setBox u r with sent := addNow (l.left.setBox u r).sent (.credit u) } k
      rw [hbal, datas_app]
      exact h.a.cov1 hr z k
    · show ((credits k (ahead l.rl) : Nat) : Int) ≤ bal { l.left.setBox u r with sent := addNow (l.left.setBox u r).sent (.credit u) } k
      rw [hbal]
      exact h.a.cov2 hr z k
    · have z : marks (l.lr ++ [Item.credit u]) ≠ 0 := z
      rw [marks_app] at z
      have z2 : marks l.lr ≠ 0 := z
      show ((datas k (behind (l.lr ++ [.credit u])) : Nat) : Int) ≤ bal { l.left.setBox u r with sent := addNow (l.left.setBox u r).sent (.credit u) } k
      rw [behind_app z2, datas_app, hbal]
      exact h.a.cov3 hr z2 k
    · show 0 ≤ bal { l.left.setBox u r with sent := addNow (l.left.setBox u r).sent (.credit u) } k
      rw [hbal]
      exact h.a.pos k
  · refine ⟨h.b.box, h.b.last, fun z => ?_, fun z _ k => ?_, fun z y k => ?_, h.b.cov3, fun z y => ?_, h.b.pos⟩
    · show (l.lr ++ [Item.credit u]).any isConf = false
      rw [any_conf_app]
      have q : l.lr.any isConf = false := h.b.conf z
      rw [q]; rfl
    · show ((credits k (l.lr ++ [.credit u]) + (({ l.left.setBox u r with sent := addNow (l.left.setBox u r).sent (.credit u) } : End).box k).length + datas k l.rl : Nat) : Int) ≤ bal l.right k
      have q : ((credits k l.lr + (l.left.box k).length + datas k l.rl : Nat) : Int) ≤ bal l.right k := h.b.cov1 z hr k
      rw [credits_app, hbox2]
      have e : credits k [.credit u] = if u = k then 1 else 0 := by
        rw [credits_cons, isCredit_credit]; by_cases hk : u = k <;> simp [hk, credits]
      rw [e]
      have := hbox k
      omega
    · have y : (l.left.setBox u r).resetting = true := y
      rw [b1, hr] at y; cases y
    · have z : l.right.resetting = true := z
      have y : marks l.rl = 0 := y
      obtain ⟨q1, _⟩ := h.b.new z y
      have q1' : l.left.box u = [] := q1 u
      rw [hb] at q1'; cases q1'

/-! ### the left end begins a reset -/
theorem inv_reset {l : Link} (h : LInv l) : LInv l.startReset := by
  unfold Link.startReset
  cases hr : l.left.resetting with
  | true => rw [if_pos rfl]; exact h
  | false =>
    rw [if_neg Bool.false_ne_true]
    have hs := h.sum
    rw [hr] at hs
    simp only [Bool.false_eq_true, if_false, Nat.zero_add] at hs
    refine ⟨⟨⟨h.wf.l.s, h.wf.l.g⟩, h.wf.r⟩, ?_, ?_, ?_⟩
    · show marks (l.lr ++ [Item.reset]) + marks l.rl = (if true = true then 1 else 0) + _
      rw [marks_app]
      have e : marks [Item.reset] = 1 := rfl
      rw [e, if_pos rfl]
      show _ = 1 + (if l.right.resetting = true then 1 else 0)
      omega
    · refine ⟨fun _ k => box_begin _ k, fun _ => .inr ⟨l.lr, rfl⟩, fun z => ?_, fun z => ?_, fun z => ?_, fun z => ?_, fun _ y => ?_, fun k => h.a.pos k⟩
      · exact Bool.noConfusion (show true = false from z)
      · exact Bool.noConfusion (show true = false from z)
      · exact Bool.noConfusion (show true = false from z)
      · exact Bool.noConfusion (show true = false from z)
      · have y : marks (l.lr ++ [.reset]) = 0 := y
        rw [marks_app] at y
        have e : marks [Item.reset] = 1 := rfl
        omega
    · refine ⟨h.b.box, h.b.last, fun z => ?_, fun z y => ?_, fun z _ k => ?_, h.b.cov3, fun z y => ?_, h.b.pos⟩
      · show (l.lr ++ [Item.reset]).any isConf = false
        rw [any_conf_app]
        have q : l.lr.any isConf = false := h.b.conf z
        rw [q]; rfl
      · exact Bool.noConfusion (show true = false from y)
      · show ((credits k (ahead (l.lr ++ [.reset])) : Nat) : Int) ≤ bal l.right k
        rw [ahead_snoc_mark rfl]
        have q : ((credits k l.lr + (l.left.box k).length + datas k l.rl : Nat) : Int) ≤ bal l.right k := h.b.cov1 z hr k
        have := ahead_le k l.lr
        omega
      · have z : l.right.resetting = true := z
        have y : marks l.rl = 0 := y
        rw [z] at hs
        obtain ⟨_, q2⟩ := h.b.new z y
        refine ⟨fun k => box_begin _ k, fun k => ?_⟩
        show credits k (behind (l.lr ++ [.reset])) = 0
        rw [behind_app (by simp at hs; omega), credits_app]
        have q2' : credits k (behind l.lr) = 0 := q2 k
        rw [q2']; rfl

/-! ### an item arrives at the right end -/
theorem last_tail {i : Item} {q : List Item} (h : (i :: q) = [] ∨ ∃ p, (i :: q) = p ++ [.reset]) : q = [] ∨ ∃ p, q = p ++ [.reset] := by
  rcases h with h | ⟨p, h⟩
  · cases h
  · cases p with
    | nil => exact .inl (by simpa using (List.cons.inj h).2)
    | cons j p => exact .inr ⟨p, (List.cons.inj h).2⟩
theorem beh_cons {i : Item} {q : List Item} (h : isMark i = false) : behind (i :: q) = behind q := by
  show (if isMark i = true then q else behind q) = _
  rw [h]; rfl
theorem ahead_cons {i : Item} {q : List Item} (h : isMark i = false) : ahead (i :: q) = i :: ahead q := by
  show (if isMark i = true then [] else i :: ahead q) = _
  rw [h]; rfl
theorem behind_mark {i : Item} {q : List Item} (h : isMark i = true) : behind (i :: q) = q := by
  show (if isMark i = true then q else behind q) = _
  rw [h]; rfl
theorem conf_mark : ∀ {q : List Item}, marks q = 0 → q.any isConf = false
  | [], _ => rfl
  | i :: q, h => by
    rw [marks_cons] at h
    rw [List.any_cons, conf_mark (q := q) (by omega)]
    cases i <;> first | rfl | (simp [isMark] at h)
theorem marks_snoc_reset (p : List Item) : marks (p ++ [.reset]) = marks p + 1 := marks_app p [.reset]
/-- an item that is no marker arrives at an end that waits: it is lost -/
theorem inv_lost {L R : End} {i : Item} {q rl : List Item} (h : LInv ⟨L, R, i :: q, rl⟩) (hr : R.resetting = true) (hi : isMark i = false) : LInv ⟨L, R, q, rl⟩ := by
  have mc : marks (i :: q) = marks q := by rw [marks_cons, hi]; simp
  have hs : marks (i :: q) + marks rl = (if L.resetting then 1 else 0) + (if R.resetting then 1 else 0) := h.sum
  rw [mc] at hs
  have no : ∀ {P : Prop}, R.resetting = false → P := fun z => by rw [hr] at z; cases z
  refine ⟨⟨h.wf.l, h.wf.r⟩, hs, ⟨h.a.box, fun z => last_tail (h.a.last z), h.a.conf, fun _ y => no y, h.a.cov2, fun z y k => ?_, fun z y => h.a.new z (by show marks (_ :: q) = 0; rw [mc]; exact y), h.a.pos⟩, ⟨h.b.box, h.b.last, fun z => no z, fun z => no z, fun z => no z, fun z => no z, fun z y => ?_, h.b.pos⟩⟩
  · have c : ((datas k (behind (i :: q)) : Nat) : Int) ≤ bal L k := h.a.cov3 z (by show marks (i :: q) ≠ 0; rw [mc]; exact y) k
    rw [beh_cons hi] at c
    exact c
  · have c := h.b.new z y
    refine ⟨c.1, fun k => ?_⟩
    have c2 : credits k (behind (i :: q)) = 0 := c.2 k
    rw [beh_cons hi] at c2
    exact c2
/-- a marker arrives at an end that waits -/
theorem inv_over {L R : End} {i : Item} {q rl : List Item} (h : LInv ⟨L, R, i :: q, rl⟩) (hr : R.resetting = true) (hi : isMark i = true) : LInv ⟨L, R.done, q, rl⟩ := by
  have mc : marks (i :: q) = 1 + marks q := by rw [marks_cons, hi]; simp
  have hs : marks (i :: q) + marks rl = (if L.resetting then 1 else 0) + (if R.resetting then 1 else 0) := h.sum
  rw [mc, hr] at hs
  have hs2 : marks q + marks rl = (if L.resetting then 1 else 0) := by simp only [if_true] at hs; omega
  have wD : EWf R.done := ⟨by simp [End.done], by simp [End.done]⟩
  have hD : R.done.resetting = false := rfl
  have no : ∀ {P : Prop}, R.done.resetting = true → P := fun z => by rw [hD] at z; cases z
  have bl : rl = [] ∨ ∃ g, rl = g ++ [.reset] := h.b.last hr
  have rl0 : marks rl = 0 → rl = [] := fun m => by
    rcases bl with g | ⟨g, e⟩
    · exact g
    · rw [e, marks_snoc_reset] at m; omega
  have rl1 : marks rl ≤ 1 → behind rl = [] := fun m => by
    rcases bl with g | ⟨g, e⟩
    · rw [g]; rfl
    · rw [e, marks_snoc_reset] at m
      rw [e]; exact behind_snoc_mark rfl (by omega)
  refine ⟨⟨h.wf.l, wD⟩, ?_, ⟨h.a.box, fun z => last_tail (h.a.last z), h.a.conf, fun z _ k => ?_, fun _ y => no y, fun z y => ?_, fun z y => ?_, h.a.pos⟩, ⟨fun z => no z, fun z => no z, fun _ => ?_, fun _ y k => ?_, fun _ y k => ?_, fun _ y k => ?_, fun z => no z, fun k => ?_⟩⟩
  · show marks q + marks rl = (if L.resetting then 1 else 0) + (if R.done.resetting then 1 else 0)
    rw [hD]; simp only [Bool.false_eq_true, if_false, Nat.add_zero]; exact hs2
  · have z : L.resetting = false := z
    rw [z] at hs2
    simp only [Bool.false_eq_true, if_false] at hs2
    show ((credits k rl + (R.done.box k).length + datas k q : Nat) : Int) ≤ bal L k
    rw [rl0 (by omega), box_done]
    have c : ((datas k (behind (i :: q)) : Nat) : Int) ≤ bal L k := h.a.cov3 z (by show marks (i :: q) ≠ 0; rw [mc]; omega) k
    rw [behind_mark hi] at c
    have e : credits k ([] : List Item) = 0 := rfl
    rw [e, List.length_nil, Nat.zero_add]
    exact c
  · have z : L.resetting = false := z
    have y : marks q ≠ 0 := y
    rw [z] at hs2
    simp only [Bool.false_eq_true, if_false] at hs2
    omega
  · have z : L.resetting = true := z
    have y : marks q = 0 := y
    rw [z] at hs2
    simp only [if_true] at hs2
    refine ⟨fun k => box_done _ k, fun k => ?_⟩
    show credits k (behind rl) = 0
    rw [rl1 (by omega)]; rfl
  · show q.any isConf = false
    cases z : L.resetting with
    | false =>
      rw [z] at hs2
      simp only [Bool.false_eq_true, if_false] at hs2
      exact conf_mark (by omega)
    | true =>
      rw [z] at hs2
      simp only [if_true] at hs2
      rcases last_tail (h.a.last z) with g | ⟨g, e⟩
      · rw [g]; rfl
      · rw [e, marks_snoc_reset] at hs2
        rw [e, any_conf_app, conf_mark (q := g) (by omega)]; rfl
  · have y : L.resetting = false := y
    rw [y] at hs2
    simp only [Bool.false_eq_true, if_false] at hs2
    show ((credits k q + (L.box k).length + datas k rl : Nat) : Int) ≤ bal R.done k
    have c := h.b.new hr (show marks rl = 0 by omega)
    have c1 : L.box k = [] := c.1 k
    have c2 : credits k (behind (i :: q)) = 0 := c.2 k
    rw [behind_mark hi] at c2
    rw [bal_done, c1, c2, rl0 (by omega)]
    exact Int.le_refl _
  · have y : L.resetting = true := y
    rw [y] at hs2
    simp only [if_true] at hs2
    show ((credits k (ahead q) : Nat) : Int) ≤ bal R.done k
    rw [bal_done]
    by_cases m : marks rl = 0
    · have c2 : credits k (behind (i :: q)) = 0 := (h.b.new hr m).2 k
      rw [behind_mark hi] at c2
      have := ahead_le k q
      omega
    · rcases last_tail (h.a.last y) with g | ⟨g, e⟩
      · rw [g]; exact Int.le_refl _
      · rw [e, marks_snoc_reset] at hs2; omega
  · have y : marks rl ≠ 0 := y
    show ((datas k (behind rl) : Nat) : Int) ≤ bal R.done k
    have m : marks rl ≤ 1 := by cases z : L.resetting <;> rw [z] at hs2 <;> simp at hs2 <;> omega
    rw [bal_done, rl1 m]
    exact Int.le_refl _
  · show 0 ≤ bal R.done k
    rw [bal_done]; exact Int.le_refl _
/-- a reset arrives at an end that does not wait -/
theorem inv_asked {L R : End} {q rl : List Item} (h : LInv ⟨L, R, .reset :: q, rl⟩) (hr : R.resetting = false) : LInv ⟨L, R.done, q, rl ++ [.confirm]⟩ := by
  have mc : marks (Item.reset :: q) = 1 + marks q := by rw [marks_cons]; rfl
  have hs : marks (Item.reset :: q) + marks rl = (if L.resetting then 1 else 0) + (if R.resetting then 1 else 0) := h.sum
  rw [mc, hr] at hs
  simp only [Bool.false_eq_true, if_false, Nat.add_zero] at hs
  have hl : L.resetting = true := by
    cases z : L.resetting with
    | true => rfl
    | false => rw [z] at hs; simp at hs
  rw [hl] at hs
  simp only [if_true] at hs
  have hq : q = [] := by
    rcases last_tail (h.a.last hl) with g | ⟨g, e⟩
    · exact g
    · rw [e, marks_snoc_reset] at hs; omega
  subst hq
  have m : marks rl = 0 := by omega
  have wD : EWf R.done := ⟨by simp [End.done], by simp [End.done]⟩
  have hD : R.done.resetting = false := rfl
  have no : ∀ {P : Prop}, R.done.resetting = true → P := fun z => by rw [hD] at z; cases z
  have noL : ∀ {P : Prop}, L.resetting = false → P := fun z => by rw [hl] at z; cases z
  have bc : behind (rl ++ [.confirm]) = [] := behind_snoc_mark rfl m
  refine ⟨⟨h.wf.l, wD⟩, ?_, ⟨h.a.box, fun _ => .inl rfl, fun z => noL z, fun z => noL z, fun z => noL z, fun z => noL z, fun z y => ?_, h.a.pos⟩, ⟨fun z => no z, fun z => no z, fun _ => rfl, fun _ y => noL y, fun _ y k => ?_, fun _ y k => ?_, fun z => no z, fun k => ?_⟩⟩
  · show marks [] + marks (rl ++ [Item.confirm]) = (if L.resetting then 1 else 0) + (if R.done.resetting then 1 else 0)
    have m1 : marks [Item.confirm] = 1 := rfl
    have m0 : marks ([] : List Item) = 0 := rfl
    rw [hl, hD, marks_app, m1, m0, m]; simp
  · refine ⟨fun k => box_done _ k, fun k => ?_⟩
    show credits k (behind (rl ++ [.confirm])) = 0
    rw [bc]; rfl
  · show ((credits k (ahead []) : Nat) : Int) ≤ bal R.done k
    rw [bal_done]; exact Int.le_refl _
  · show ((datas k (behind (rl ++ [.confirm])) : Nat) : Int) ≤ bal R.done k
    rw [bal_done, bc]; exact Int.le_refl _
  · show 0 ≤ bal R.done k
    rw [bal_done]; exact Int.le_refl _
theorem addNow_ne {l : List (List Item)} {i : Item} (h : l ≠ []) : addNow l i ≠ [] := by
  cases l with
  | nil => exact absurd rfl h
  | cons x r => simp [addNow]
/-- data arrives at an end that does not wait -/
theorem inv_data {L R R' : End} {u : Bool} {p : Packet} {q rl : List Item} (h : LInv ⟨L, R, .data u p :: q, rl⟩) (hr : R.resetting = false)
    (wR : EWf R') (hres : R'.resetting = R.resetting) (hbox : ∀ k, (R'.box k).length = (R.box k).length + (if u = k then 1 else 0)) (hbal : ∀ k, bal R' k = bal R k) : LInv ⟨L, R', q, rl⟩ := by
  have mc : marks (Item.data u p :: q) = marks q := by rw [marks_cons]; simp [isMark]
  have hs : marks (Item.data u p :: q) + marks rl = (if L.resetting then 1 else 0) + (if R.resetting then 1 else 0) := h.sum
  rw [mc] at hs
  have no : ∀ {P : Prop}, R'.resetting = true → P := fun z => by rw [hres, hr] at z; cases z
  have hi : isMark (Item.data u p) = false := rfl
  refine ⟨⟨h.wf.l, wR⟩, ?_, ⟨h.a.box, fun z => last_tail (h.a.last z), h.a.conf, fun z _ k => ?_, fun _ y => no y, fun z y k => ?_, fun z y => ?_, h.a.pos⟩, ⟨fun z => no z, fun z => no z, fun _ => ?_, fun _ y k => ?_, fun _ y k => ?_, fun _ y k => ?_, fun z => no z, fun k => ?_⟩⟩
  · show marks q + marks rl = _ + (if R'.resetting then 1 else 0)
    rw [hres]; exact hs
  · show ((credits k rl + (R'.box k).length + datas k q : Nat) : Int) ≤ bal L k
    have c : ((credits k rl + (R.box k).length + datas k (.data u p :: q) : Nat) : Int) ≤ bal L k := h.a.cov1 z hr k
    rw [datas_cons, isData_data] at c
    rw [hbox]
    by_cases e : u = k <;> simp [e] at c ⊢ <;> omega
  · have c : ((datas k (behind (.data u p :: q)) : Nat) : Int) ≤ bal L k := h.a.cov3 z (by show marks (_ :: q) ≠ 0; rw [mc]; exact y) k
    rw [beh_cons hi] at c
    exact c
  · -- the left end waits and nothing marked is on the way: then nothing at all was
    have y : marks q = 0 := y
    have al : Item.data u p :: q = [] ∨ ∃ g, Item.data u p :: q = g ++ [.reset] := h.a.last z
    rcases al with g | ⟨g, e⟩
    · cases g
    · rw [e, marks_snoc_reset] at mc; omega
  · have c : (Item.data u p :: q).any isConf = false := h.b.conf hr
    rw [List.any_cons] at c
    exact (Bool.or_eq_false_iff.mp c).2
  · have c : ((credits k (.data u p :: q) + (L.box k).length + datas k rl : Nat) : Int) ≤ bal R k := h.b.cov1 hr y k
    show ((credits k q + (L.box k).length + datas k rl : Nat) : Int) ≤ bal R' k
    rw [hbal]
    rw [credits_cons] at c
    have e1 : isCredit k (.data u p) = false := rfl
    rw [e1] at c
    simp only [Bool.false_eq_true, if_false, Nat.zero_add] at c
    exact c
  · have c : ((credits k (ahead (.data u p :: q)) : Nat) : Int) ≤ bal R k := h.b.cov2 hr y k
    show ((credits k (ahead q) : Nat) : Int) ≤ bal R' k
    rw [hbal]
    exact c
  · have c : ((datas k (behind rl) : Nat) : Int) ≤ bal R k := h.b.cov3 hr y k
    show ((datas k (behind rl) : Nat) : Int) ≤ bal R' k
    rw [hbal]
    exact c
  · show 0 ≤ bal R' k
    rw [hbal]; exact h.b.pos k
/-- a credit arrives at an end that does not wait -/
theorem inv_credit {L R : End} {u : Bool} {q rl : List Item} (h : LInv ⟨L, R, .credit u :: q, rl⟩) (hr : R.resetting = false) : LInv ⟨L, R.gets (.credit u), q, rl⟩ := by
  have mc : marks (Item.credit u :: q) = marks q := by rw [marks_cons]; simp [isMark]
  have hs : marks (Item.credit u :: q) + marks rl = (if L.resetting then 1 else 0) + (if R.resetting then 1 else 0) := h.sum
  rw [mc] at hs
  have hi : isMark (Item.credit u) = false := rfl
  have wR : EWf R := h.wf.r
  have hbal : ∀ k, bal (R.gets (.credit u)) k = bal R k - (if u = k then 1 else 0) := fun k => bal_got_credit _ wR u k
  have no : ∀ {P : Prop}, (R.gets (.credit u)).resetting = true → P := fun z => by
    have z : R.resetting = true := z
    rw [hr] at z; cases z
  have dq : ∀ k, datas k (.credit u :: q) = datas k q := fun k => by
    rw [datas_cons]
    have e1 : isData k (.credit u) = false := rfl
    rw [e1]; simp
  have c1 : ∀ k, L.resetting = false → ((credits k q + (if u = k then 1 else 0) + (L.box k).length + datas k rl : Nat) : Int) ≤ bal R k := fun k y => by
    have c : ((credits k (.credit u :: q) + (L.box k).length + datas k rl : Nat) : Int) ≤ bal R k := h.b.cov1 hr y k
    rw [credits_cons, isCredit_credit] at c
    by_cases e : u = k <;> simp [e] at c ⊢ <;> omega
  have c2 : ∀ k, L.resetting = true → ((credits k (ahead q) + (if u = k then 1 else 0) : Nat) : Int) ≤ bal R k := fun k y => by
    have c : ((credits k (ahead (.credit u :: q)) : Nat) : Int) ≤ bal R k := h.b.cov2 hr y k
    rw [ahead_cons hi, credits_cons, isCredit_credit] at c
    by_cases e : u = k <;> simp [e] at c ⊢ <;> omega
  refine ⟨⟨h.wf.l, ⟨wR.s, addNow_ne wR.g⟩⟩, hs, ⟨h.a.box, fun z => last_tail (h.a.last z), h.a.conf, fun z _ k => ?_, fun _ y => no y, fun z y k => ?_, fun z y => ?_, h.a.pos⟩, ⟨fun z => no z, fun z => no z, fun _ => ?_, fun _ y k => ?_, fun _ y k => ?_, fun _ y k => ?_, fun z => no z, fun k => ?_⟩⟩
  · have c : ((credits k rl + (R.box k).length + datas k (.credit u :: q) : Nat) : Int) ≤ bal L k := h.a.cov1 z hr k
    rw [dq] at c
    show ((credits k rl + ((R.gets (.credit u)).box k).length + datas k q : Nat) : Int) ≤ bal L k
    rw [box_gets]
    exact c
  · have c : ((datas k (behind (.credit u :: q)) : Nat) : Int) ≤ bal L k := h.a.cov3 z (by show marks (_ :: q) ≠ 0; rw [mc]; exact y) k
    rw [beh_cons hi] at c
    exact c
  · have y : marks q = 0 := y
    obtain ⟨n1, n2⟩ := h.a.new z (by show marks (_ :: q) = 0; rw [mc]; exact y)
    exact ⟨fun k => by show (R.gets (.credit u)).box k = []; rw [box_gets]; exact n1 k, n2⟩
  · have c : (Item.credit u :: q).any isConf = false := h.b.conf hr
    rw [List.any_cons] at c
    exact (Bool.or_eq_false_iff.mp c).2
  · show ((credits k q + (L.box k).length + datas k rl : Nat) : Int) ≤ bal (R.gets (.credit u)) k
    rw [hbal]
    have := c1 k y
    by_cases e : u = k <;> simp [e] at this ⊢ <;> omega
  · show ((credits k (ahead q) : Nat) : Int) ≤ bal (R.gets (.credit u)) k
    rw [hbal]
    have := c2 k y
    by_cases e : u = k <;> simp [e] at this ⊢ <;> omega
  · -- the other end's marker is on its way to the left: then the left end waits
    have y : marks rl ≠ 0 := y
    show ((datas k (behind rl) : Nat) : Int) ≤ bal (R.gets (.credit u)) k
    rw [hr] at hs
    simp only [Bool.false_eq_true, if_false, Nat.add_zero] at hs
    have hl : L.resetting = true := by
      cases z : L.resetting with
      | true => rfl
      | false => rw [z] at hs; simp at hs; omega
    rw [hl] at hs
    simp only [if_true] at hs
    have al : Item.credit u :: q = [] ∨ ∃ g, Item.credit u :: q = g ++ [.reset] := h.a.last hl
    rcases al with g | ⟨g, e⟩
    · cases g
    · rw [e, marks_snoc_reset] at mc; omega
  · show 0 ≤ bal (R.gets (.credit u)) k
    rw [hbal]
    cases y : L.resetting with
    | true => have := c2 k y; by_cases e : u = k <;> simp [e] at this ⊢ <;> omega
    | false => have := c1 k y; by_cases e : u = k <;> simp [e] at this ⊢ <;> omega
theorem inv_deliver {l : Link} (h : LInv l) {x : Link × Bool} (hx : l.deliver = some x) : LInv x.1 := by
  obtain ⟨L, R, lr, rl⟩ := l
  cases lr with
  | nil => cases hx
  | cons i q =>
    cases hr : R.resetting with
    | true =>
      cases i with
      | data u p =>
        have e : x = (⟨L, R, q, rl⟩, false) := by
          unfold Link.deliver at hx
          simp only [hr, if_true] at hx
          exact (Option.some.inj hx).symm
        rw [e]; exact inv_lost h hr rfl
      | credit u =>
        have e : x = (⟨L, R, q, rl⟩, false) := by
          unfold Link.deliver at hx
          simp only [hr, if_true] at hx
          exact (Option.some.inj hx).symm
        rw [e]; exact inv_lost h hr rfl
      | reset =>
        have e : x = (⟨L, R.done, q, rl⟩, false) := by
          unfold Link.deliver at hx
          simp only [hr, if_true] at hx
          exact (Option.some.inj hx).symm
        rw [e]; exact inv_over h hr rfl
      | confirm =>
        have e : x.1 = ⟨L, R.done, q, rl⟩ := by
          unfold Link.deliver at hx
          exact congrArg Prod.fst (Option.some.inj hx).symm
        rw [e]; exact inv_over h hr rfl
    | false =>
      cases i with
      | data u p =>
        have e : x = (⟨L, (R.gets (.data u p)).setBox u (R.box u ++ [p]), q, rl⟩, false) := by
          unfold Link.deliver at hx
          simp only [hr, Bool.false_eq_true, if_false] at hx
          exact (Option.some.inj hx).symm
        obtain ⟨b1, b2, b3⟩ := setBox_rest (R.gets (.data u p)) u (R.box u ++ [p])
        have wR : EWf R := h.wf.r
        rw [e]
        refine inv_data h hr ⟨by rw [b2]; exact wR.s, by rw [b3]; exact addNow_ne wR.g⟩ b1 (fun k => ?_) fun k => by rw [bal_setBox, bal_got_data _ wR]
        rw [box_setBox, box_gets]
        by_cases e : k = u
        · subst e; rw [if_pos rfl, if_pos rfl]; simp
        · rw [if_neg e, if_neg (fun z => e z.symm)]; rfl
      | credit u =>
        have e : x = (⟨L, R.gets (.credit u), q, rl⟩, false) := by
          unfold Link.deliver at hx
          simp only [hr, Bool.false_eq_true, if_false] at hx
          exact (Option.some.inj hx).symm
        rw [e]; exact inv_credit h hr
      | reset =>
        have e : x = (⟨L, R.done, q, rl ++ [.confirm]⟩, true) := by
          unfold Link.deliver at hx
          simp only [hr, Bool.false_eq_true, if_false] at hx
          exact (Option.some.inj hx).symm
        rw [e]; exact inv_asked h hr
      | confirm =>
        have c : (Item.confirm :: q).any isConf = false := h.b.conf hr
        cases c
/-- what absL_deliver asks -/
theorem inv_conf {l : Link} (h : LInv l) {i : Item} {q : List Item} (hq : l.lr = i :: q) (e : i = .confirm) : l.right.resetting = true := by
  cases hr : l.right.resetting with
  | true => rfl
  | false =>
    have c : l.lr.any isConf = false := h.b.conf hr
    rw [hq, e] at c
    cases c
end Rl
end
section
set_option linter.all false
/-! RlM3: circuits as lists of links: the mirror's deliver, forward, reset, send, read, step on either direction, and that they are the specification's. -/
namespace Rl
open R7251g.Spec

theorem and_comm' {a b : Prop} (h : a ∧ b) : b ∧ a := ⟨h.2, h.1⟩
def ChInv (c : Chain) : Prop := ∀ l ∈ c, LInv l
def flipD (m : List ML) : List ML := (m.map flipM).reverse
theorem map_mirror (c : Chain) : (mirror c).map absL = flipD (c.map absL) := by
  unfold mirror flipD
  rw [List.map_reverse, List.map_map, List.map_map]
  congr 2
  funext l
  exact absL_flip l
theorem ChInv.mirror {c : Chain} (h : ChInv c) : ChInv (mirror c) := fun l hl => by
  unfold R7251g.Spec.mirror at hl
  obtain ⟨a, ha, rfl⟩ := List.mem_map.mp (List.mem_reverse.mp hl)
  exact (h a ha).flip
theorem mirror_length (c : Chain) : (mirror c).length = c.length := by unfold mirror; simp
theorem flipD_length (c : List ML) : (flipD c).length = c.length := by unfold flipD; simp
theorem flipD_get {c : List ML} {k : Nat} (h : k < c.length) : (flipD c)[c.length - 1 - k]? = (c[k]?).map flipM := by
  unfold flipD
  rw [List.getElem?_reverse (by simp; omega), List.length_map, List.getElem?_map]
  congr 2
  omega
theorem flipD_flipD (c : List ML) : flipD (flipD c) = c := by
  unfold flipD
  rw [List.map_reverse, List.reverse_reverse, List.map_map]
  have e : flipM ∘ flipM = id := by funext m; exact flipM_flipM m
  rw [e, List.map_id]
theorem mirror_mirror (c : Chain) : mirror (mirror c) = c := by
  unfold mirror
  rw [List.map_reverse, List.reverse_reverse, List.map_map]
  have e : Link.flip ∘ Link.flip = id := by funext m; rfl
  rw [e, List.map_id]
theorem flipD_set {c : List ML} {k : Nat} {x : ML} (h : k < c.length) : flipD (c.set k x) = (flipD c).set (c.length - 1 - k) (flipM x) := by
  apply List.ext_getElem?
  intro i
  by_cases hi : i < c.length
  · have e1 := flipD_get (c := c.set k x) (k := c.length - 1 - i) (by simp; omega)
    rw [List.length_set] at e1
    have e2 : c.length - 1 - (c.length - 1 - i) = i := by omega
    rw [e2] at e1
    rw [e1]
    have e3 := flipD_get (c := c) (k := c.length - 1 - i) (by omega)
    rw [e2] at e3
    by_cases hk : k = c.length - 1 - i
    · rw [← hk, List.getElem?_set_self h]
      have : i = c.length - 1 - k := by omega
      rw [this, List.getElem?_set_self (by rw [flipD_length]; omega)]
      rfl
    · rw [List.getElem?_set_ne hk, List.getElem?_set_ne (by omega), e3]
  · rw [List.getElem?_eq_none (by rw [flipD_length, List.length_set]; omega), List.getElem?_eq_none (by rw [List.length_set, flipD_length]; omega)]

/-! ### the operations on a link, seen from the other side -/
theorem flip_setE (m : ML) (s : Bool) (e : ME) : flipM (m.setE s e) = (flipM m).setE (!s) e := by
  ext1
  · funext t; cases s <;> cases t <;> rfl
  · rfl
theorem flip_setQ (m : ML) (s : Bool) (l : List Item) : flipM (m.setQ s l) = (flipM m).setQ (!s) l := by
  ext1
  · rfl
  · funext t; cases s <;> cases t <;> rfl
theorem flip_e (m : ML) (s : Bool) : (flipM m).e (!s) = m.e s := by cases s <;> rfl
theorem flip_q (m : ML) (s : Bool) : (flipM m).q (!s) = m.q s := by cases s <;> rfl
theorem flip_put (m : ML) (s : Bool) (i : Item) : flipM (m.put s i) = (flipM m).put (!s) i := by
  unfold ML.put; rw [flip_setQ, flip_q]
theorem flip_send (m : ML) (s k : Bool) (p : Packet) : flipM (m.send s k p) = (flipM m).send (!s) k p := by
  unfold ML.send; rw [flip_put, flip_setE, flip_e]
theorem flip_took (m : ML) (s k : Bool) : flipM (m.took s k) = (flipM m).took (!s) k := by
  unfold ML.took; rw [flip_put, flip_setE, flip_e]
theorem flip_reset (m : ML) (s : Bool) : flipM (m.reset s) = (flipM m).reset (!s) := by
  unfold ML.reset
  rw [flip_e]
  cases (m.e s).waits with
  | true => rfl
  | false =>
    simp only [Bool.false_eq_true, if_false]
    rw [flip_put, flip_setE]
theorem flip_can (m : ML) (s k : Bool) (w : Nat) : (flipM m).canSend (!s) k w = m.canSend s k w := by
  unfold ML.canSend; rw [flip_e]
theorem flip_come (m : ML) (s : Bool) (i : Item) : (flipM m).come (!s) i = (flipM (m.come s i).1, (m.come s i).2) := by
  cases i <;> (unfold ML.come; rw [flip_e]; cases (m.e s).waits <;> simp only [Bool.false_eq_true, if_false, if_true] <;> (try rw [flip_put]) <;> (try rw [flip_setE]))
theorem flip_arrive (m : ML) (s : Bool) : (flipM m).arrive (!s) = (flipM (m.arrive s).1, (m.arrive s).2) := by
  unfold ML.arrive
  rw [flip_q]
  cases m.q s with
  | nil => rfl
  | cons i r =>
    show ((flipM m).setQ (!s) r).come (!s) i = _
    rw [← flip_setQ, flip_come]

/-! ### deliver -/
def headC (c : List ML) (k : Nat) (d : Bool) : Option Item := (c[k]?).bind fun m => (m.q d).head?
def at_ (c : List ML) (k : Nat) : ML := c.getD k ML.fresh
/-- the neighbour of link k in a direction is changed, if there is one -/
def nextC (c : List ML) (k : Nat) (d : Bool) (f : ML → ML) : List ML :=
  if d then (match c[k + 1]? with | some m => c.set (k + 1) (f m) | none => c) else (match k with | 0 => c | j + 1 => (match c[j]? with | some m => c.set j (f m) | none => c))
def deliverC (c : List ML) (k : Nat) (d : Bool) : List ML :=
  match c[k]? with
  | none => c
  | some m => if (m.arrive d).2 then nextC (c.set k (m.arrive d).1) k d (fun m => m.reset (!d)) else c.set k (m.arrive d).1
theorem nextC_length (c : List ML) (k : Nat) (d : Bool) (f : ML → ML) : (nextC c k d f).length = c.length := by
  unfold nextC
  cases d with
  | true =>
    simp only [if_true]
    split <;> simp
  | false =>
    simp only [Bool.false_eq_true, if_false]
    cases k with
    | zero => rfl
    | succ j =>
      show (match c[j]? with | some m => c.set j (f m) | none => c).length = _
      split <;> simp
theorem deliverC_length (c : List ML) (k : Nat) (d : Bool) : (deliverC c k d).length = c.length := by
  unfold deliverC
  split
  · rfl
  · split
    · rw [nextC_length, List.length_set]
    · rw [List.length_set]
theorem nextC_cons (a : ML) (c : List ML) (k : Nat) (f : ML → ML) : nextC (a :: c) (k + 1) true f = a :: nextC c k true f := by
  unfold nextC
  simp only [if_true]
  show (match c[k + 1]? with | some m => (a :: c).set (k + 2) (f m) | none => a :: c) = a :: (match c[k + 1]? with | some m => c.set (k + 1) (f m) | none => c)
  cases c[k + 1]? <;> rfl
theorem deliverC_cons (a : ML) (c : List ML) (k : Nat) : deliverC (a :: c) (k + 1) true = a :: deliverC c k true := by
  unfold deliverC
  show (match c[k]? with | none => a :: c | some m => if (m.arrive true).2 then nextC ((a :: c).set (k + 1) (m.arrive true).1) (k + 1) true (fun m => m.reset (!true)) else (a :: c).set (k + 1) (m.arrive true).1) = a :: (match c[k]? with | none => c | some m => if (m.arrive true).2 then nextC (c.set k (m.arrive true).1) k true (fun m => m.reset (!true)) else c.set k (m.arrive true).1)
  cases c[k]? with
  | none => rfl
  | some m =>
    show (if (m.arrive true).2 = true then nextC (a :: c.set k (m.arrive true).1) (k + 1) true _ else a :: c.set k (m.arrive true).1) = a :: (if (m.arrive true).2 = true then _ else _)
    cases (m.arrive true).2 with
    | true => rw [if_pos rfl, if_pos rfl, nextC_cons]
    | false => rw [if_neg Bool.false_ne_true, if_neg Bool.false_ne_true]
theorem resetFirst_abs : ∀ (r : Chain) (m : ML), (resetFirst r).map absL = (match (m :: r.map absL)[1]? with | some x => ((m :: r.map absL).set 1 (x.reset false)).tail | none => r.map absL)
  | [], m => rfl
  | b :: r, m => by
    show absL b.startReset :: r.map absL = _
    rw [absL_reset]; rfl
theorem inv_resetFirst {r : Chain} (h : ChInv r) : ChInv (resetFirst r) := by
  cases r with
  | nil => exact h
  | cons b r =>
    intro l hl
    rcases List.mem_cons.mp hl with e | hl
    · rw [e]; exact inv_reset (h b List.mem_cons_self)
    · exact h l (List.mem_cons_of_mem _ hl)
theorem resetFirst_length (r : Chain) : (resetFirst r).length = r.length := by cases r <;> rfl
theorem deliver_none : ∀ {c : Chain} {k : Nat}, headC (c.map absL) k true = none → deliverAt c k = none
  | [], _, _ => rfl
  | a :: r, 0, h => by
    have h : (a.lr).head? = none := h
    have e : a.lr = [] := List.head?_eq_none_iff.mp h
    show (a.deliver.map _) = none
    unfold Link.deliver
    rw [e]; rfl
  | a :: r, k + 1, h => by
    have h : headC (r.map absL) k true = none := h
    show (deliverAt r k).map _ = none
    rw [deliver_none h]; rfl
theorem deliver_some : ∀ {c : Chain} {k : Nat} {i : Item}, ChInv c → headC (c.map absL) k true = some i → ∃ y, deliverAt c k = some y ∧ y.map absL = deliverC (c.map absL) k true ∧ ChInv y ∧ y.length = c.length
  | [], _, _, _, h => nomatch h
  | a :: r, 0, i, hI, h => by
    have h : (a.lr).head? = some i := h
    obtain ⟨q, hq⟩ : ∃ q, a.lr = i :: q := by
      cases e : a.lr with
      | nil => rw [e] at h; cases h
      | cons j q => rw [e] at h; cases h; exact ⟨q, rfl⟩
    have Ia := hI a List.mem_cons_self
    obtain ⟨x, hx, ex⟩ := absL_deliver a Ia.wf Ia.b.box hq (fun e => inv_conf Ia hq e)
    have e1 : absL x.1 = ((absL a).arrive true).1 := congrArg Prod.fst ex
    have e2 : x.2 = ((absL a).arrive true).2 := congrArg Prod.snd ex
    have Ir : ChInv r := fun l hl => hI l (List.mem_cons_of_mem _ hl)
    refine ⟨x.1 :: (if x.2 then resetFirst r else r), by show (a.deliver.map _) = _; rw [hx]; rfl, ?_, ?_, ?_⟩
    · show absL x.1 :: (if x.2 = true then resetFirst r else r).map absL = (if ((absL a).arrive true).2 = true then nextC (((absL a).arrive true).1 :: r.map absL) 0 true (fun m => m.reset (!true)) else ((absL a).arrive true).1 :: r.map absL)
      rw [← e1, ← e2]
      cases x.2 with
      | false => rfl
      | true =>
        simp only [if_true]
        unfold nextC
        simp only [if_true]
        cases r with
        | nil => rfl
        | cons b r =>
          show absL x.1 :: absL b.startReset :: r.map absL = absL x.1 :: (absL b).reset false :: r.map absL
          rw [absL_reset]
    · intro l hl
      rcases List.mem_cons.mp hl with e | hl
      · rw [e]; exact inv_deliver Ia hx
      · cases hx2 : x.2 with
        | true => rw [hx2] at hl; exact inv_resetFirst Ir l hl
        | false => rw [hx2] at hl; exact Ir l hl
    · show (if x.2 = true then resetFirst r else r).length + 1 = r.length + 1
      cases x.2 with
      | true => show (resetFirst r).length + 1 = _; rw [resetFirst_length]
      | false => rfl
  | a :: r, k + 1, i, hI, h => by
    have h : headC (r.map absL) k true = some i := h
    have Ir : ChInv r := fun l hl => hI l (List.mem_cons_of_mem _ hl)
    obtain ⟨y, h1, h2, h3, h4⟩ := deliver_some Ir h
    refine ⟨a :: y, by show (deliverAt r k).map _ = _; rw [h1]; rfl, ?_, ?_, by rw [List.length_cons, List.length_cons, h4]⟩
    · show absL a :: y.map absL = deliverC (absL a :: r.map absL) (k + 1) true
      rw [deliverC_cons, h2]
    · intro l hl
      rcases List.mem_cons.mp hl with e | hl
      · rw [e]; exact hI a List.mem_cons_self
      · exact h3 l hl
theorem headC_flip {c : List ML} {k : Nat} (d : Bool) (h : k < c.length) : headC (flipD c) (c.length - 1 - k) (!d) = headC c k d := by
  unfold headC
  rw [flipD_get h]
  cases c[k]? with
  | none => rfl
  | some m =>
    show ((flipM m).q (!d)).head? = (m.q d).head?
    rw [flip_q]
theorem nextC_flip {c : List ML} {k : Nat} (d : Bool) (h : k < c.length) {f g : ML → ML} (hf : ∀ m, flipM (f m) = g (flipM m)) : nextC (flipD c) (c.length - 1 - k) (!d) g = flipD (nextC c k d f) := by
  cases d with
  | true =>
    unfold nextC
    simp only [Bool.not_true, Bool.false_eq_true, if_false, if_true]
    by_cases hk : k + 1 < c.length
    · obtain ⟨j, hj⟩ : ∃ j, c.length - 1 - k = j + 1 := ⟨c.length - 1 - (k + 1), by omega⟩
      have hj2 : c.length - 1 - (k + 1) = j := by omega
      rw [hj]
      have e := flipD_get hk
      rw [hj2] at e
      show (match (flipD c)[j]? with | some m => (flipD c).set j (g m) | none => flipD c) = _
      rw [e]
      rw [List.getElem?_eq_getElem hk]
      show (flipD c).set j (g (flipM c[k + 1])) = flipD (c.set (k + 1) (f c[k + 1]))
      rw [flipD_set hk, hj2, hf]
    · have : c.length - 1 - k = 0 := by omega
      rw [this, List.getElem?_eq_none (by omega)]
  | false =>
    unfold nextC
    simp only [Bool.not_false, Bool.false_eq_true, if_false, if_true]
    cases k with
    | zero =>
      rw [List.getElem?_eq_none (by rw [flipD_length]; omega)]
    | succ j =>
      have hj : j < c.length := by omega
      have e : c.length - 1 - (j + 1) + 1 = c.length - 1 - j := by omega
      rw [e, flipD_get hj, List.getElem?_eq_getElem hj]
      show (flipD c).set (c.length - 1 - j) (g (flipM c[j])) = flipD (match c[j]? with | some m => c.set j (f m) | none => c)
      rw [List.getElem?_eq_getElem hj]
      show _ = flipD (c.set j (f c[j]))
      rw [flipD_set hj, hf]
theorem deliverC_flip {c : List ML} {k : Nat} (d : Bool) (h : k < c.length) : deliverC (flipD c) (c.length - 1 - k) (!d) = flipD (deliverC c k d) := by
  unfold deliverC
  rw [flipD_get h, List.getElem?_eq_getElem h]
  show (if ((flipM c[k]).arrive (!d)).2 = true then nextC ((flipD c).set (c.length - 1 - k) ((flipM c[k]).arrive (!d)).1) (c.length - 1 - k) (!d) (fun m => m.reset (!(!d))) else (flipD c).set (c.length - 1 - k) ((flipM c[k]).arrive (!d)).1) = flipD (if (c[k].arrive d).2 = true then nextC (c.set k (c[k].arrive d).1) k d (fun m => m.reset (!d)) else c.set k (c[k].arrive d).1)
  rw [flip_arrive]
  show (if (c[k].arrive d).2 = true then nextC ((flipD c).set (c.length - 1 - k) (flipM (c[k].arrive d).1)) (c.length - 1 - k) (!d) _ else (flipD c).set (c.length - 1 - k) (flipM (c[k].arrive d).1)) = _
  rw [← flipD_set h]
  cases (c[k].arrive d).2 with
  | false => rfl
  | true =>
    simp only [if_true]
    have e := nextC_flip (c := c.set k (c[k].arrive d).1) (k := k) d (by simpa using h) (f := fun m => m.reset (!d)) (g := fun m => m.reset (!!d)) (fun m => flip_reset m (!d))
    rw [List.length_set] at e
    exact e
/-- the specification's deliver in either direction (deliverFn's way to say it) -/
theorem deliver_dir {c : Chain} (hI : ChInv c) {k : Nat} (hk : k < c.length) (b : Bool) :
    (headC (c.map absL) k b = none → deliverAt (seen (!b) c) (if b then k else c.length - 1 - k) = none) ∧
    (∀ i, headC (c.map absL) k b = some i → ∃ y, deliverAt (seen (!b) c) (if b then k else c.length - 1 - k) = some y ∧ (seen (!b) y).map absL = deliverC (c.map absL) k b ∧ ChInv (seen (!b) y) ∧ (seen (!b) y).length = c.length) := by
  cases b with
  | true => exact ⟨deliver_none, fun i h => deliver_some hI h⟩
  | false =>
    have e : (mirror c).map absL = flipD (c.map absL) := map_mirror c
    have hl : (c.map absL).length = c.length := List.length_map ..
    have hh := headC_flip (c := c.map absL) (k := k) false (by rw [hl]; exact hk)
    rw [hl, ← e] at hh
    refine ⟨fun h => ?_, fun i h => ?_⟩
    · show deliverAt (mirror c) (c.length - 1 - k) = none
      exact deliver_none (hh.trans h)
    · obtain ⟨y, h1, h2, h3, h4⟩ := deliver_some hI.mirror (hh.trans h)
      refine ⟨y, h1, ?_, h3.mirror, by show (mirror y).length = _; rw [mirror_length, h4, mirror_length]⟩
      show (mirror y).map absL = _
      have e2 := deliverC_flip (c := c.map absL) (k := k) false (by rw [hl]; exact hk)
      rw [hl] at e2
      rw [map_mirror, h2, e]
      show flipD (deliverC (flipD (c.map absL)) (c.length - 1 - k) (!false)) = _
      rw [e2, flipD_flipD]

/-! ### forward -/
def srcOf (n : Nat) (d : Bool) : Nat := if d then n - 1 else n
def tgtOf (n : Nat) (d : Bool) : Nat := if d then n else n - 1
/-- why a node cannot hand on -/
def whyC (c : List ML) (n : Nat) (d u : Bool) (w : Nat) : Option Refusal :=
  if ((at_ c (srcOf n d)).e d).inn u = [] then some .empty else if ((at_ c (tgtOf n d)).e (!d)).waits then some .resetting else if (at_ c (tgtOf n d)).canSend (!d) u w then none else some .full
def fwdC (c : List ML) (n : Nat) (d u : Bool) : List ML :=
  (c.set (srcOf n d) ((at_ c (srcOf n d)).took d u)).set (tgtOf n d) ((at_ c (tgtOf n d)).send (!d) u ((((at_ c (srcOf n d)).e d).inn u).headD ⟨0, false⟩))
theorem fwdC_length (c : List ML) (n : Nat) (d u : Bool) : (fwdC c n d u).length = c.length := by unfold fwdC; simp
theorem can_open {l : Link} (h : LInv l) (u : Bool) (w : Nat) (hr : l.left.resetting = false) : (absL l).canSend false u w = decide (l.left.open u < room w u) := by
  have e := open_eq h u
  show (!l.left.resetting && decide (bal l.left u < ((room w u : Nat) : Int))) = _
  rw [← e, hr]
  simp
theorem pass_is {a b : Link} (Ia : LInv a) (Ib : LInv b) (w : Nat) (u : Bool) :
    match whyC [absL a, absL b] 1 true u w with
    | some e => pass w u a b = .error e
    | none => ∃ x, pass w u a b = .ok x ∧ [absL x.1, absL x.2] = fwdC [absL a, absL b] 1 true u ∧ LInv x.1 ∧ LInv x.2 := by
  have hA : at_ [absL a, absL b] (srcOf 1 true) = absL a := rfl
  have hB : at_ [absL a, absL b] (tgtOf 1 true) = absL b := rfl
  have hin : ((absL a).e true).inn u = a.right.box u := rfl
  have hbx : a.flip.left.box u = a.right.box u := rfl
  have hwt : ((absL b).e (!true)).waits = b.left.resetting := rfl
  unfold whyC
  rw [hA, hB, hin, hwt]
  unfold pass
  cases hb : a.right.box u with
  | nil =>
    rw [if_pos rfl, take_none _ _ (hbx.trans hb)]
  | cons p r =>
    rw [if_neg (by simp)]
    obtain ⟨t1, t2⟩ := absL_take a.flip Ia.flip.wf u (hbx.trans hb)
    have t3 := inv_take Ia.flip u (hbx.trans hb)
    rw [t1]
    show match (if b.left.resetting = true then some Refusal.resetting else if (absL b).canSend (!true) u w = true then none else some Refusal.full) with | some e => (if b.left.resetting = true then Except.error Refusal.resetting else if b.left.open u < room w u then _ else Except.error Refusal.full) = Except.error e | none => _
    cases hr : b.left.resetting with
    | true => rw [if_pos rfl]; rfl
    | false =>
      rw [if_neg Bool.false_ne_true]
      have hc : (absL b).canSend (!true) u w = decide (b.left.open u < room w u) := can_open Ib u w hr
      rw [hc]
      by_cases ho : b.left.open u < room w u
      · rw [if_pos (decide_eq_true ho)]
        refine ⟨((({ a.flip with left := a.flip.left.setBox u r } : Link).put (.credit u)).flip, b.put (.data u p)), ?_, ?_, t3.flip, inv_send Ib hr u p⟩
        · show (if false = true then _ else if b.left.open u < room w u then _ else _) = _
          rw [if_neg Bool.false_ne_true, if_pos ho]
        show [absL (Link.flip _), absL (b.put (.data u p))] = _
        rw [absL_flip, t2, absL_data b Ib.wf]
        unfold fwdC
        rw [hA, hB, hin, hb]
        show [flipM ((absL a.flip).took false u), _] = [(absL a).took true u, (absL b).send (!true) u p]
        rw [absL_flip, flip_took, flipM_flipM]; rfl
      · rw [if_neg (by simpa using ho)]
        show (if false = true then _ else if b.left.open u < room w u then _ else _) = _
        rw [if_neg Bool.false_ne_true, if_neg ho]
theorem whyC_cons (a : ML) (c : List ML) (n : Nat) (u : Bool) (w : Nat) : whyC (a :: c) (n + 2) true u w = whyC c (n + 1) true u w := rfl
theorem fwdC_cons (a : ML) (c : List ML) (n : Nat) (u : Bool) : fwdC (a :: c) (n + 2) true u = a :: fwdC c (n + 1) true u := rfl
theorem forward_is : ∀ {c : Chain} {n : Nat} (w : Nat) (u : Bool), ChInv c → n + 1 < c.length →
    match whyC (c.map absL) (n + 1) true u w with
    | some e => forwardAt w u c (n + 1) = .error e
    | none => ∃ y, forwardAt w u c (n + 1) = .ok y ∧ y.map absL = fwdC (c.map absL) (n + 1) true u ∧ ChInv y ∧ y.length = c.length
  | [], _, _, _, _, h => absurd h (by simp)
  | [a], n, _, _, _, h => absurd h (by simp)
  | a :: b :: r, 0, w, u, hI, _ => by
    have Ia := hI a List.mem_cons_self
    have Ib := hI b (List.mem_cons_of_mem _ List.mem_cons_self)
    have hp := pass_is Ia Ib w u
    have e1 : whyC ((a :: b :: r).map absL) (0 + 1) true u w = whyC [absL a, absL b] 1 true u w := rfl
    rw [e1]
    cases hw : whyC [absL a, absL b] 1 true u w with
    | some e =>
      rw [hw] at hp
      have hp : pass w u a b = .error e := hp
      show (match pass w u a b with | .ok x => Except.ok (x.1 :: x.2 :: r) | .error e => .error e) = _
      rw [hp]
    | none =>
      rw [hw] at hp
      obtain ⟨x, h1, h2, h3, h4⟩ := hp
      refine ⟨x.1 :: x.2 :: r, ?_, ?_, ?_, rfl⟩
      · show (match pass w u a b with | .ok x => Except.ok (x.1 :: x.2 :: r) | .error e => .error e) = _
        rw [h1]
      · have g : fwdC ((a :: b :: r).map absL) (0 + 1) true u = fwdC [absL a, absL b] 1 true u ++ r.map absL := rfl
        rw [g, ← h2]; rfl
      · intro l hl
        rcases List.mem_cons.mp hl with e | hl
        · rw [e]; exact h3
        · rcases List.mem_cons.mp hl with e | hl
          · rw [e]; exact h4
          · exact hI l (List.mem_cons_of_mem _ (List.mem_cons_of_mem _ hl))
  | a :: b :: r, n + 1, w, u, hI, h => by
    have Ir : ChInv (b :: r) := fun l hl => hI l (List.mem_cons_of_mem _ hl)
    have ih := forward_is (c := b :: r) (n := n) w u Ir (by simpa using h)
    have e1 : whyC ((a :: b :: r).map absL) (n + 1 + 1) true u w = whyC ((b :: r).map absL) (n + 1) true u w := rfl
    have e2 : forwardAt w u (a :: b :: r) (n + 1 + 1) = (match forwardAt w u (b :: r) (n + 1) with | .ok x => .ok (a :: x) | .error e => .error e) := rfl
    rw [e1, e2]
    cases hw : whyC ((b :: r).map absL) (n + 1) true u w with
    | some e =>
      rw [hw] at ih
      have ih : forwardAt w u (b :: r) (n + 1) = .error e := ih
      rw [ih]
    | none =>
      rw [hw] at ih
      obtain ⟨y, h1, h2, h3, h4⟩ := ih
      refine ⟨a :: y, by rw [h1], ?_, ?_, by rw [List.length_cons, List.length_cons, h4]⟩
      · show absL a :: y.map absL = absL a :: fwdC ((b :: r).map absL) (n + 1) true u
        rw [h2]
      · intro l hl
        rcases List.mem_cons.mp hl with e | hl
        · rw [e]; exact hI a List.mem_cons_self
        · exact h3 l hl
theorem at_flip {c : List ML} {k : Nat} (h : k < c.length) : at_ (flipD c) (c.length - 1 - k) = flipM (at_ c k) := by
  unfold at_
  rw [List.getD_eq_getElem?_getD, List.getD_eq_getElem?_getD, flipD_get h, List.getElem?_eq_getElem h]; rfl
theorem src_flip {c : List ML} {n : Nat} (d : Bool) (h1 : 1 ≤ n) (h2 : n < c.length) : srcOf (c.length - n) (!d) = c.length - 1 - srcOf n d := by
  unfold srcOf
  cases d <;> simp <;> omega
theorem tgt_flip {c : List ML} {n : Nat} (d : Bool) (h1 : 1 ≤ n) (h2 : n < c.length) : tgtOf (c.length - n) (!d) = c.length - 1 - tgtOf n d := by
  unfold tgtOf
  cases d <;> simp <;> omega
theorem src_lt {n m : Nat} (d : Bool) (h1 : 1 ≤ n) (h2 : n < m) : srcOf n d < m := by unfold srcOf; cases d <;> simp <;> omega
theorem tgt_lt {n m : Nat} (d : Bool) (h1 : 1 ≤ n) (h2 : n < m) : tgtOf n d < m := by unfold tgtOf; cases d <;> simp <;> omega
theorem src_ne_tgt {n : Nat} (d : Bool) (h1 : 1 ≤ n) : srcOf n d ≠ tgtOf n d := by unfold srcOf tgtOf; cases d <;> simp <;> omega
theorem whyC_flip {c : List ML} {n : Nat} (d u : Bool) (w : Nat) (h1 : 1 ≤ n) (h2 : n < c.length) : whyC (flipD c) (c.length - n) (!d) u w = whyC c n d u w := by
  unfold whyC
  rw [src_flip d h1 h2, tgt_flip d h1 h2, at_flip (src_lt d h1 h2), at_flip (tgt_lt d h1 h2), flip_e, flip_e, flip_can]
theorem fwdC_flip {c : List ML} {n : Nat} (d u : Bool) (h1 : 1 ≤ n) (h2 : n < c.length) : fwdC (flipD c) (c.length - n) (!d) u = flipD (fwdC c n d u) := by
  unfold fwdC
  rw [src_flip d h1 h2, tgt_flip d h1 h2, at_flip (src_lt d h1 h2), at_flip (tgt_lt d h1 h2), flip_e, ← flip_took, ← flip_send, ← flipD_set (src_lt d h1 h2)]
  have e := flipD_set (c := c.set (srcOf n d) ((at_ c (srcOf n d)).took d u)) (k := tgtOf n d) (x := (at_ c (tgtOf n d)).send (!d) u ((((at_ c (srcOf n d)).e d).inn u).headD ⟨0, false⟩)) (by rw [List.length_set]; exact tgt_lt d h1 h2)
  rw [List.length_set] at e
  exact e.symm
/-- the specification's forward in either direction (forwardFn's way to say it) -/
theorem forward_dir {c : Chain} (hI : ChInv c) {n : Nat} (h1 : 1 ≤ n) (h2 : n < c.length) (w : Nat) (b u : Bool) :
    match whyC (c.map absL) n b u w with
    | some e => forwardAt w u (seen (!b) c) (if b then n else c.length - n) = .error e
    | none => ∃ y, forwardAt w u (seen (!b) c) (if b then n else c.length - n) = .ok y ∧ (seen (!b) y).map absL = fwdC (c.map absL) n b u ∧ ChInv (seen (!b) y) ∧ (seen (!b) y).length = c.length := by
  cases b with
  | true =>
    obtain ⟨j, rfl⟩ : ∃ j, n = j + 1 := ⟨n - 1, by omega⟩
    exact forward_is w u hI h2
  | false =>
    have e : (mirror c).map absL = flipD (c.map absL) := map_mirror c
    have hl : (c.map absL).length = c.length := List.length_map ..
    have hw := whyC_flip (c := c.map absL) false u w h1 (by rw [hl]; exact h2)
    rw [hl, ← e] at hw
    obtain ⟨j, hj⟩ : ∃ j, c.length - n = j + 1 := ⟨c.length - n - 1, by omega⟩
    have hf := forward_is (c := mirror c) (n := j) w u hI.mirror (by rw [mirror_length]; omega)
    rw [← hj] at hf
    have hw : whyC ((mirror c).map absL) (c.length - n) true u w = whyC (c.map absL) n false u w := hw
    rw [hw] at hf
    cases hy : whyC (c.map absL) n false u w with
    | some x =>
      rw [hy] at hf
      exact hf
    | none =>
      rw [hy] at hf
      obtain ⟨y, g1, g2, g3, g4⟩ := hf
      refine ⟨y, g1, ?_, g3.mirror, by show (mirror y).length = _; rw [mirror_length, g4, mirror_length]⟩
      show (mirror y).map absL = _
      have e2 := fwdC_flip (c := c.map absL) (n := n) false u h1 (by rw [hl]; exact h2)
      rw [hl] at e2
      rw [map_mirror, g2, e]
      show flipD (fwdC (flipD (c.map absL)) (c.length - n) (!false) u) = _
      rw [e2, flipD_flipD]

/-! ### terminals -/
def termOf (c : List ML) (s : Bool) : Nat := if s then c.length - 1 else 0
def whyS (c : List ML) (s u : Bool) (w : Nat) : Option Refusal :=
  if ((at_ c (termOf c s)).e s).waits then some .resetting else if (at_ c (termOf c s)).canSend s u w then none else some .full
def sendC (c : List ML) (s u : Bool) (p : Packet) : List ML := c.set (termOf c s) ((at_ c (termOf c s)).send s u p)
def readC (c : List ML) (s u : Bool) : List ML := c.set (termOf c s) ((at_ c (termOf c s)).took s u)
def boxC (c : List ML) (s u : Bool) : List Packet := ((at_ c (termOf c s)).e s).inn u
theorem term_flip {c : List ML} (s : Bool) (h : 0 < c.length) : termOf (flipD c) (!s) = c.length - 1 - termOf c s := by
  unfold termOf
  rw [flipD_length]
  cases s <;> simp
theorem term_lt {c : List ML} (s : Bool) (h : 0 < c.length) : termOf c s < c.length := by unfold termOf; cases s <;> simp <;> omega
theorem send_left {c : Chain} (hI : ChInv c) (h : 0 < c.length) (w : Nat) (u : Bool) (p : Packet) :
    match whyS (c.map absL) false u w with
    | some e => sendAt w u c p = .error e
    | none => ∃ y, sendAt w u c p = .ok y ∧ y.map absL = sendC (c.map absL) false u p ∧ ChInv y ∧ y.length = c.length := by
  cases c with
  | nil => exact absurd h (by simp)
  | cons l r =>
    have Il := hI l List.mem_cons_self
    show match (if l.left.resetting = true then some Refusal.resetting else if (absL l).canSend false u w = true then none else some Refusal.full) with | some e => (if l.left.resetting = true then Except.error Refusal.resetting else if l.left.open u < room w u then Except.ok (l.put (.data u p) :: r) else Except.error Refusal.full) = Except.error e | none => _
    cases hr : l.left.resetting with
    | true => rw [if_pos rfl]; rfl
    | false =>
      rw [if_neg Bool.false_ne_true, can_open Il u w hr]
      by_cases ho : l.left.open u < room w u
      · rw [if_pos (decide_eq_true ho)]
        refine ⟨l.put (.data u p) :: r, ?_, ?_, ?_, rfl⟩
        · show (if l.left.resetting = true then _ else if l.left.open u < room w u then _ else _) = _
          rw [hr, if_neg Bool.false_ne_true, if_pos ho]
        · show absL (l.put (.data u p)) :: r.map absL = (absL l).send false u p :: r.map absL
          rw [absL_data l Il.wf]
        · intro x hx
          rcases List.mem_cons.mp hx with e | hx
          · rw [e]; exact inv_send Il hr u p
          · exact hI x (List.mem_cons_of_mem _ hx)
      · rw [if_neg (by simpa using ho)]
        show (if false = true then _ else if l.left.open u < room w u then _ else _) = _
        rw [if_neg Bool.false_ne_true, if_neg ho]
theorem whyS_flip {c : List ML} (s u : Bool) (w : Nat) (h : 0 < c.length) : whyS (flipD c) (!s) u w = whyS c s u w := by
  unfold whyS
  rw [term_flip s h, at_flip (term_lt s h), flip_e, flip_can]
theorem sendC_flip {c : List ML} (s u : Bool) (p : Packet) (h : 0 < c.length) : sendC (flipD c) (!s) u p = flipD (sendC c s u p) := by
  unfold sendC
  rw [term_flip s h, at_flip (term_lt s h), ← flip_send, flipD_set (term_lt s h)]
theorem readC_flip {c : List ML} (s u : Bool) (h : 0 < c.length) : readC (flipD c) (!s) u = flipD (readC c s u) := by
  unfold readC
  rw [term_flip s h, at_flip (term_lt s h), ← flip_took, flipD_set (term_lt s h)]
theorem boxC_flip {c : List ML} (s u : Bool) (h : 0 < c.length) : boxC (flipD c) (!s) u = boxC c s u := by
  unfold boxC
  rw [term_flip s h, at_flip (term_lt s h), flip_e]
theorem sendC_length (c : List ML) (s u : Bool) (p : Packet) : (sendC c s u p).length = c.length := by unfold sendC; simp
theorem readC_length (c : List ML) (s u : Bool) : (readC c s u).length = c.length := by unfold readC; simp
theorem send_dir {c : Chain} (hI : ChInv c) (h : 0 < c.length) (w : Nat) (b u : Bool) (p : Packet) :
    match whyS (c.map absL) b u w with
    | some e => sendAt w u (seen b c) p = .error e
    | none => ∃ y, sendAt w u (seen b c) p = .ok y ∧ (seen b y).map absL = sendC (c.map absL) b u p ∧ ChInv (seen b y) ∧ (seen b y).length = c.length := by
  cases b with
  | false => exact send_left hI h w u p
  | true =>
    have e : (mirror c).map absL = flipD (c.map absL) := map_mirror c
    have hl : 0 < (c.map absL).length := by rw [List.length_map]; exact h
    have hf := send_left (c := mirror c) hI.mirror (by rw [mirror_length]; exact h) w u p
    have hw : whyS ((mirror c).map absL) false u w = whyS (c.map absL) true u w := by rw [e]; exact whyS_flip true u w hl
    rw [hw] at hf
    cases hy : whyS (c.map absL) true u w with
    | some x =>
      rw [hy] at hf
      exact hf
    | none =>
      rw [hy] at hf
      obtain ⟨y, g1, g2, g3, g4⟩ := hf
      refine ⟨y, g1, ?_, g3.mirror, by show (mirror y).length = _; rw [mirror_length, g4, mirror_length]⟩
      show (mirror y).map absL = _
      rw [map_mirror, g2, e]
      show flipD (sendC (flipD (c.map absL)) (!true) u p) = _
      rw [sendC_flip true u p hl, flipD_flipD]
theorem read_left {c : Chain} (hI : ChInv c) (h : 0 < c.length) (u : Bool) :
    match boxC (c.map absL) false u with
    | [] => readAt u c = none
    | p :: _ => ∃ y, readAt u c = some (p, y) ∧ y.map absL = readC (c.map absL) false u ∧ ChInv y ∧ y.length = c.length := by
  cases c with
  | nil => exact absurd h (by simp)
  | cons l r =>
    have Il := hI l List.mem_cons_self
    have e : boxC ((l :: r).map absL) false u = l.left.box u := rfl
    rw [e]
    cases hb : l.left.box u with
    | nil =>
      show (l.take u).map _ = none
      rw [take_none _ _ hb]; rfl
    | cons p q =>
      obtain ⟨t1, t2⟩ := absL_take l Il.wf u hb
      refine ⟨(({ l with left := l.left.setBox u q } : Link).put (.credit u)) :: r, by show (l.take u).map _ = _; rw [t1]; rfl, ?_, ?_, rfl⟩
      · show absL _ :: r.map absL = (absL l).took false u :: r.map absL
        rw [t2]
      · intro x hx
        rcases List.mem_cons.mp hx with e | hx
        · rw [e]; exact inv_take Il u hb
        · exact hI x (List.mem_cons_of_mem _ hx)
theorem read_dir {c : Chain} (hI : ChInv c) (h : 0 < c.length) (b u : Bool) :
    match boxC (c.map absL) b u with
    | [] => readAt u (seen b c) = none
    | p :: _ => ∃ y, readAt u (seen b c) = some (p, y) ∧ (seen b y).map absL = readC (c.map absL) b u ∧ ChInv (seen b y) ∧ (seen b y).length = c.length := by
  cases b with
  | false => exact read_left hI h u
  | true =>
    have e : (mirror c).map absL = flipD (c.map absL) := map_mirror c
    have hl : 0 < (c.map absL).length := by rw [List.length_map]; exact h
    have hf := read_left (c := mirror c) hI.mirror (by rw [mirror_length]; exact h) u
    have hb : boxC ((mirror c).map absL) false u = boxC (c.map absL) true u := by rw [e]; exact boxC_flip true u hl
    rw [hb] at hf
    cases hy : boxC (c.map absL) true u with
    | nil =>
      rw [hy] at hf
      exact hf
    | cons p q =>
      rw [hy] at hf
      obtain ⟨y, g1, g2, g3, g4⟩ := hf
      refine ⟨y, g1, ?_, g3.mirror, by show (mirror y).length = _; rw [mirror_length, g4, mirror_length]⟩
      show (mirror y).map absL = _
      rw [map_mirror, g2, e]
      show flipD (readC (flipD (c.map absL)) (!true) u) = _
      rw [readC_flip true u hl, flipD_flipD]

/-! ### a node resets -/
def setAt (c : List ML) (k : Nat) (f : ML → ML) : List ML := match c[k]? with | some m => c.set k (f m) | none => c
def resetC (c : List ML) (n : Nat) : List ML :=
  setAt (match n with | 0 => c | j + 1 => setAt c j (fun m => m.reset true)) n (fun m => m.reset false)
theorem setAt_cons (a : ML) (c : List ML) (k : Nat) (f : ML → ML) : setAt (a :: c) (k + 1) f = a :: setAt c k f := by
  unfold setAt
  show (match c[k]? with | some m => (a :: c).set (k + 1) (f m) | none => a :: c) = _
  cases c[k]? <;> rfl
theorem setAt_length (c : List ML) (k : Nat) (f : ML → ML) : (setAt c k f).length = c.length := by unfold setAt; split <;> simp
theorem resetC_length (c : List ML) (n : Nat) : (resetC c n).length = c.length := by
  unfold resetC
  rw [setAt_length]
  cases n with
  | zero => rfl
  | succ j => exact setAt_length _ _ _
theorem flip_startReset (a : Link) : absL a.flip.startReset.flip = (absL a).reset true := by
  rw [absL_flip, absL_reset, absL_flip, flip_reset, flipM_flipM]; rfl
theorem reset_is : ∀ (c : Chain) (n : Nat), (resetAt c n).map absL = resetC (c.map absL) n
  | [], 0 => rfl
  | [], n + 1 => rfl
  | a :: r, 0 => by
    show absL a.startReset :: r.map absL = (absL a).reset false :: r.map absL
    rw [absL_reset]
  | a :: r, 1 => by
    show absL a.flip.startReset.flip :: (resetFirst r).map absL = setAt ((absL a).reset true :: r.map absL) 1 (fun m => m.reset false)
    rw [flip_startReset, setAt_cons]
    cases r with
    | nil => rfl
    | cons b r =>
      show _ :: absL b.startReset :: r.map absL = _ :: (absL b).reset false :: r.map absL
      rw [absL_reset]
  | a :: r, n + 2 => by
    have ih := reset_is r (n + 1)
    show absL a :: (resetAt r (n + 1)).map absL = setAt (setAt (absL a :: r.map absL) (n + 1) (fun m => m.reset true)) (n + 2) (fun m => m.reset false)
    rw [ih, setAt_cons, setAt_cons]; rfl
theorem inv_resetAt : ∀ {c : Chain} {n : Nat}, ChInv c → ChInv (resetAt c n)
  | [], 0, h => h
  | [], 1, h => h
  | [], n + 2, h => h
  | a :: r, 0, h => fun l hl => by
    rcases List.mem_cons.mp hl with e | hl
    · rw [e]; exact inv_reset (h a List.mem_cons_self)
    · exact h l (List.mem_cons_of_mem _ hl)
  | a :: r, 1, h => fun l hl => by
    rcases List.mem_cons.mp hl with e | hl
    · rw [e]; exact (inv_reset (h a List.mem_cons_self).flip).flip
    · exact inv_resetFirst (fun x hx => h x (List.mem_cons_of_mem _ hx)) l hl
  | a :: r, n + 2, h => fun l hl => by
    rcases List.mem_cons.mp hl with e | hl
    · rw [e]; exact h a List.mem_cons_self
    · exact inv_resetAt (n := n + 1) (fun x hx => h x (List.mem_cons_of_mem _ hx)) l hl
theorem resetAt_length : ∀ (c : Chain) (n : Nat), (resetAt c n).length = c.length
  | [], 0 => rfl
  | [], 1 => rfl
  | [], n + 2 => rfl
  | a :: r, 0 => rfl
  | a :: r, 1 => by show (resetFirst r).length + 1 = _; rw [resetFirst_length]; rfl
  | a :: r, n + 2 => by show (resetAt r (n + 1)).length + 1 = _; rw [resetAt_length]; rfl
end Rl
end
section
set_option linter.all false
/-! RlM4: the next event of a circuit, by the mirror, and that it is the specification's. -/
namespace Rl
open R7251g.Spec

inductive MEv where
  | dl (d : Bool) (k : Nat)
  | fw (u d : Bool) (n : Nat)
def hasQ (L : List ML) (d : Bool) (k : Nat) : Bool := !((at_ L k).q d).isEmpty
def canF (L : List ML) (w : Nat) (u d : Bool) (n : Nat) : Bool := !(((at_ L (srcOf n d)).e d).inn u).isEmpty && (at_ L (tgtOf n d)).canSend (!d) u w
def firstQ (L : List ML) (d : Bool) : Option Nat := (List.range L.length).find? (hasQ L d)
def firstF (L : List ML) (w : Nat) (u d : Bool) : Option Nat := (List.range L.length).find? fun n => decide (1 ≤ n) && canF L w u d n
def evF (L : List ML) (w : Nat) (u : Bool) : Option MEv := match firstF L w u true with
  | some n => some (.fw u true n)
  | none => (firstF L w u false).map (.fw u false)
def evC (L : List ML) (w : Nat) : Option MEv := match firstQ L true with
  | some k => some (.dl true k)
  | none => match firstQ L false with
    | some k => some (.dl false k)
    | none => match evF L w true with
      | some e => some e
      | none => evF L w false
def doC (L : List ML) : MEv → List ML
  | .dl d k => deliverC L k d
  | .fw u d n => fwdC L n d u
def nextL (L : List ML) (w : Nat) : List ML := match evC L w with
  | some e => doC L e
  | none => L
/-- what, where, which way -/
def evAt : MEv → Nat
  | .dl _ k => k
  | .fw _ _ n => n
def evDir : MEv → Bool
  | .dl d _ => d
  | .fw _ d _ => d
def runC (w : Nat) : Nat → List ML → Nat × List ML
  | 0, L => (0, L)
  | n + 1, L => match evC L w with
    | some e => ((runC w n (doC L e)).1 + 1, (runC w n (doC L e)).2)
    | none => (0, L)
theorem doC_length (L : List ML) (e : MEv) : (doC L e).length = L.length := by
  cases e with
  | dl d k => exact deliverC_length L k d
  | fw u d n => exact fwdC_length L n d u
theorem firstQ_some {L : List ML} {d : Bool} {k : Nat} (hk : k < L.length) (h : hasQ L d k = true) (hb : ∀ j, j < k → hasQ L d j = false) : firstQ L d = some k := by
  unfold firstQ
  rw [List.find?_range_eq_some]
  exact ⟨h, List.mem_range.mpr hk, fun j hj => by rw [hb j hj]; rfl⟩
theorem firstQ_none {L : List ML} {d : Bool} (hb : ∀ j, j < L.length → hasQ L d j = false) : firstQ L d = none := by
  unfold firstQ
  rw [List.find?_eq_none]
  intro j hj
  rw [hb j (List.mem_range.mp hj)]
  exact Bool.false_ne_true
theorem firstF_some {L : List ML} {w : Nat} {u d : Bool} {k : Nat} (h1 : 1 ≤ k) (hk : k < L.length) (h : canF L w u d k = true) (hb : ∀ j, 1 ≤ j → j < k → canF L w u d j = false) : firstF L w u d = some k := by
  unfold firstF
  rw [List.find?_range_eq_some]
  refine ⟨by simp [h1, h], List.mem_range.mpr hk, fun j hj => ?_⟩
  by_cases h0 : 1 ≤ j
  · rw [hb j h0 hj]; simp
  · simp [h0]
theorem firstF_none {L : List ML} {w : Nat} {u d : Bool} (hb : ∀ j, 1 ≤ j → j < L.length → canF L w u d j = false) : firstF L w u d = none := by
  unfold firstF
  rw [List.find?_eq_none]
  intro j hj
  by_cases h0 : 1 ≤ j
  · rw [hb j h0 (List.mem_range.mp hj)]; simp
  · simp [h0]
theorem firstQ_get {L : List ML} {d : Bool} {k : Nat} (h : firstQ L d = some k) : k < L.length ∧ hasQ L d k = true := by
  unfold firstQ at h
  rw [List.find?_range_eq_some] at h
  exact ⟨List.mem_range.mp h.2.1, h.1⟩
theorem firstF_get {L : List ML} {w : Nat} {u d : Bool} {k : Nat} (h : firstF L w u d = some k) : 1 ≤ k ∧ k < L.length ∧ canF L w u d k = true := by
  unfold firstF at h
  rw [List.find?_range_eq_some] at h
  have := h.1
  simp only [Bool.and_eq_true, decide_eq_true_eq] at this
  exact ⟨this.1, List.mem_range.mp h.2.1, this.2⟩
theorem canF_why {L : List ML} {w : Nat} {u d : Bool} {n : Nat} : canF L w u d n = true ↔ whyC L n d u w = none := by
  unfold canF whyC
  cases hin : ((at_ L (srcOf n d)).e d).inn u with
  | nil => simp
  | cons p r =>
    have e1 : (p :: r = []) = False := by simp
    simp only [e1, if_false, List.isEmpty_cons, Bool.not_false, Bool.true_and]
    unfold ML.canSend
    cases (( at_ L (tgtOf n d)).e (!d)).waits with
    | true => simp
    | false => simp
theorem hasQ_head {L : List ML} {d : Bool} {k : Nat} (hk : k < L.length) : hasQ L d k = (headC L k d).isSome := by
  unfold hasQ headC at_
  rw [List.getD_eq_getElem?_getD, List.getElem?_eq_getElem hk]
  show (!(L[k].q d).isEmpty) = (L[k].q d).head?.isSome
  cases L[k].q d <;> rfl

/-! ### the specification's -/
theorem find?_congr {α : Type} {p q : α → Bool} : ∀ {l : List α}, (∀ x ∈ l, p x = q x) → l.find? p = l.find? q
  | [], _ => rfl
  | a :: r, h => by
    rw [List.find?_cons, List.find?_cons, h a List.mem_cons_self, find?_congr fun x hx => h x (List.mem_cons_of_mem _ hx)]
theorem getD_abs {c : Chain} {k : Nat} (h : k < c.length) : at_ (c.map absL) k = absL (c.getD k freshLink) := by
  unfold at_
  rw [List.getD_eq_getElem?_getD, List.getD_eq_getElem?_getD, List.getElem?_map, List.getElem?_eq_getElem h]; rfl
theorem firstQ_spec (c : Chain) : firstQ (c.map absL) true = (List.range c.length).find? (fun k => !((c.getD k freshLink).lr.isEmpty)) ∧ firstQ (c.map absL) false = (List.range c.length).find? (fun k => !((c.getD k freshLink).rl.isEmpty)) := by
  unfold firstQ
  rw [List.length_map]
  constructor <;>
  · refine find?_congr fun k hk => ?_
    unfold hasQ
    rw [getD_abs (List.mem_range.mp hk)]; rfl
theorem forwardAt_zero (w : Nat) (u : Bool) (c : Chain) : canDo (forwardAt w u c 0) = false := by
  cases c with
  | nil => rfl
  | cons a r => cases r <;> rfl
theorem forwardAt_out (w : Nat) (u : Bool) : ∀ (c : Chain) (n : Nat), c.length ≤ n → canDo (forwardAt w u c n) = false
  | [], 0, _ => rfl
  | [], 1, _ => rfl
  | [], n + 2, _ => rfl
  | a :: r, 0, h => by simp at h
  | [a], 1, _ => rfl
  | a :: b :: r, 1, h => by simp at h
  | a :: r, n + 2, h => by
    have q := forwardAt_out w u r (n + 1) (by simp at h; omega)
    have e : forwardAt w u (a :: r) (n + 2) = (match forwardAt w u r (n + 1) with | .ok x => .ok (a :: x) | .error e => .error e) := by
      cases r <;> rfl
    rw [e]
    cases hf : forwardAt w u r (n + 1) with
    | ok x => rw [hf] at q; cases q
    | error e => rfl
theorem canF_spec {c : Chain} (hI : ChInv c) (w : Nat) (u b : Bool) {n : Nat} (h : n < c.length) :
    canDo (forwardAt w u (seen (!b) c) (if b then n else c.length - n)) = (decide (1 ≤ n) && canF (c.map absL) w u b n) := by
  by_cases h1 : 1 ≤ n
  · have f := forward_dir hI h1 h w b u
    rw [decide_eq_true h1, Bool.true_and]
    cases hw : whyC (c.map absL) n b u w with
    | none =>
      rw [hw] at f
      obtain ⟨y, e, _⟩ := f
      rw [e, canF_why.mpr hw]; rfl
    | some x =>
      rw [hw] at f
      rw [f]
      have : canF (c.map absL) w u b n = false := by
        cases hc : canF (c.map absL) w u b n with
        | false => rfl
        | true => rw [canF_why.mp hc] at hw; cases hw
      rw [this]; rfl
  · have h0 : n = 0 := by omega
    subst h0
    rw [decide_eq_false h1, Bool.false_and]
    cases b with
    | true => exact forwardAt_zero _ _ _
    | false => exact forwardAt_out _ _ _ _ (by show (mirror c).length ≤ _; rw [mirror_length]; simp)
def toEvent (l : Nat) : MEv → Event
  | .dl true k => .deliver false k
  | .dl false k => .deliver true (l - 1 - k)
  | .fw u true n => .forward false u n
  | .fw u false n => .forward true u (l - n)
theorem evF_spec {c : Chain} (hI : ChInv c) (w : Nat) (u : Bool) : (evF (c.map absL) w u).map (toEvent c.length) = firstForward w u c := by
  have e1 : firstF (c.map absL) w u true = (List.range c.length).find? fun i => canDo (forwardAt w u c i) := by
    unfold firstF
    rw [List.length_map]
    exact find?_congr fun k hk => (canF_spec hI w u true (List.mem_range.mp hk)).symm
  have e2 : firstF (c.map absL) w u false = (List.range c.length).find? fun i => canDo (forwardAt w u (mirror c) (c.length - i)) := by
    unfold firstF
    rw [List.length_map]
    exact find?_congr fun k hk => (canF_spec hI w u false (List.mem_range.mp hk)).symm
  unfold evF firstForward
  rw [e1, e2]
  generalize (List.range c.length).find? (fun i => canDo (forwardAt w u c i)) = x
  generalize (List.range c.length).find? (fun i => canDo (forwardAt w u (mirror c) (c.length - i))) = y
  cases x with
  | some i => rfl
  | none => cases y <;> rfl
theorem evC_spec {c : Chain} (hI : ChInv c) (w : Nat) : (evC (c.map absL) w).map (toEvent c.length) = nextEvent w c := by
  unfold evC nextEvent
  rw [(firstQ_spec c).1, (firstQ_spec c).2, ← evF_spec hI w true, ← evF_spec hI w false]
  generalize (List.range c.length).find? (fun k => !((c.getD k freshLink).lr.isEmpty)) = x
  generalize (List.range c.length).find? (fun k => !((c.getD k freshLink).rl.isEmpty)) = y
  cases x with
  | some k => rfl
  | none =>
    cases y with
    | some k => rfl
    | none =>
      show (match evF (c.map absL) w true with | some e => some e | none => evF (c.map absL) w false).map (toEvent c.length) = (match (evF (c.map absL) w true).map (toEvent c.length) with | some e => some e | none => (evF (c.map absL) w false).map (toEvent c.length))
      cases evF (c.map absL) w true <;> rfl
theorem evC_ok {L : List ML} {w : Nat} {e : MEv} (h : evC L w = some e) : match e with
    | .dl d k => k < L.length ∧ hasQ L d k = true
    | .fw u d n => 1 ≤ n ∧ n < L.length ∧ canF L w u d n = true := by
  have hF : ∀ u, evF L w u = some e → match e with
    | .dl d k => k < L.length ∧ hasQ L d k = true
    | .fw u d n => 1 ≤ n ∧ n < L.length ∧ canF L w u d n = true := by
    intro u h
    unfold evF at h
    split at h
    · rename_i n hn
      cases h
      exact firstF_get hn
    · cases hn : firstF L w u false with
      | none => rw [hn] at h; cases h
      | some n =>
        rw [hn] at h
        cases h
        exact firstF_get hn
  unfold evC at h
  split at h
  · rename_i k hk
    cases h
    exact firstQ_get hk
  · split at h
    · rename_i k hk
      cases h
      exact firstQ_get hk
    · split at h
      · rename_i e' he
        cases h
        exact hF _ he
      · exact hF _ h
theorem event_spec {c : Chain} (hI : ChInv c) (w : Nat) {e : MEv} (h : evC (c.map absL) w = some e) :
    (event w c (toEvent c.length e)).map absL = doC (c.map absL) e ∧ ChInv (event w c (toEvent c.length e)) ∧ (event w c (toEvent c.length e)).length = c.length := by
  have ok := evC_ok h
  cases e with
  | dl d k =>
    obtain ⟨hk, hq⟩ := ok
    rw [List.length_map] at hk
    rw [hasQ_head (by rw [List.length_map]; exact hk)] at hq
    obtain ⟨i, hi⟩ := Option.isSome_iff_exists.mp hq
    obtain ⟨y, h1, h2, h3, h4⟩ := (deliver_dir hI hk d).2 i hi
    cases d with
    | true =>
      have h1 : deliverAt c k = some y := h1
      have e : event w c (toEvent c.length (.dl true k)) = y := by
        show (deliverAt c k).getD c = y
        rw [h1]; rfl
      rw [e]
      exact ⟨h2, h3, h4⟩
    | false =>
      have h1 : deliverAt (mirror c) (c.length - 1 - k) = some y := h1
      have e : event w c (toEvent c.length (.dl false k)) = mirror y := by
        show mirror ((deliverAt (mirror c) (c.length - 1 - k)).getD (mirror c)) = mirror y
        rw [h1]; rfl
      rw [e]
      exact ⟨h2, h3, h4⟩
  | fw u d n =>
    obtain ⟨h0, hn, hc⟩ := ok
    rw [List.length_map] at hn
    have f := forward_dir hI h0 hn w d u
    rw [canF_why.mp hc] at f
    obtain ⟨y, h1, h2, h3, h4⟩ := f
    cases d with
    | true =>
      have h1 : forwardAt w u c n = .ok y := h1
      have e : event w c (toEvent c.length (.fw u true n)) = y := by
        show orSame c (forwardAt w u c n) = y
        rw [h1]; rfl
      rw [e]
      exact ⟨h2, h3, h4⟩
    | false =>
      have h1 : forwardAt w u (mirror c) (c.length - n) = .ok y := h1
      have e : event w c (toEvent c.length (.fw u false n)) = mirror y := by
        show mirror (orSame (mirror c) (forwardAt w u (mirror c) (c.length - n))) = mirror y
        rw [h1]; rfl
      rw [e]
      exact ⟨h2, h3, h4⟩
theorem run_spec (w : Nat) : ∀ (n : Nat) {c : Chain}, ChInv c → (runC w n (c.map absL)).1 = (runChain w n c).1 ∧ (runChain w n c).2.map absL = (runC w n (c.map absL)).2 ∧ ChInv (runChain w n c).2 ∧ (runChain w n c).2.length = c.length
  | 0, c, hI => ⟨rfl, rfl, hI, rfl⟩
  | n + 1, c, hI => by
    have es := evC_spec hI w
    unfold runC runChain
    cases he : evC (c.map absL) w with
    | none =>
      rw [he] at es
      rw [← es]
      exact ⟨rfl, rfl, hI, rfl⟩
    | some e =>
      rw [he] at es
      rw [← es]
      obtain ⟨h1, h2, h3⟩ := event_spec hI w he
      have ih := run_spec w n h2
      rw [h1] at ih
      exact ⟨congrArg (· + 1) ih.1, ih.2.1, ih.2.2.1, ih.2.2.2.trans h3⟩
end Rl
end
section
set_option Elab.async false
set_option linter.all false
set_option maxRecDepth 100000
set_option maxHeartbeats 4000000
/-! RlHeap: a def that keeps a promise (Ok), its calls; the ghost map of the net's cells, steps of the heap that keep what is not theirs. -/
namespace Rl
open PySem PySem.Spec PyProof.Rows L2

/-! ### defs that keep their promise -/
def Ok (P : Program) (w : World) (K : PySem.W.Frag) (mg : Str → Option Value) (base : Heap) (CX : CXT) (k : Nat) (f : Addr) (ps : List Str) (sp : Sp) : Prop :=
  ∃ fd, FnOk P w K mg base CX k f fd ps sp ∧ Binds K fd ps [] ∧ PySem.W.keepIn K (.ref f) = true
section
variable {P : Program} {w : World} {K : PySem.W.Frag} {mg : Str → Option Value} {base : Heap} {x q : Str} {st : Stmt} {f : Addr} {N ps : List Str} {k : Nat} {sp sp' : Sp} {CX : CXT}
theorem Ok.mono {j : Nat} (G : Ok P w K mg base CX j f ps sp) (h : j ≤ k) : Ok P w K mg base CX k f ps sp := by
  obtain ⟨fd, F, b, kp⟩ := G
  exact ⟨fd, F.mono h, b, kp⟩
theorem Ok.imp (G : Ok P w K mg base CX k f ps sp) (h : ∀ vs H Q E, sp' vs H Q E → sp vs H Q E) : Ok P w K mg base CX k f ps sp' := by
  obtain ⟨fd, F, b, kp⟩ := G
  exact ⟨fd, F.imp h, b, kp⟩
/-- a def out of which no exception comes -/
theorem ok_of (F : FnAt K x q st ps f) (S : FnScope N ps (defScope st)) (len : ∀ vs H Q E, sp vs H Q E → vs.length = ps.length)
    (hb : ∀ (cdv : Value) (A : Around) (outer : List Env) (s : Shared) (H : Hp) (vs : List V) (Q : VK) (E : XK), Room k (A.deeper (envOfC q (defScope st) s.heap.objs.size f cdv)) → sp vs H Q E →
      ∃ t, PSs (cxOf CX0 P w K mg base N q (defScope st) f cdv A outer s H E).nox (defBody st) t ∧ t { nx := fun _ H' => Q .non H', rt := Q } (start N vs) H) : Ok P w K mg base CX0 (k + 1) f ps sp := by
  obtain ⟨fd, F1, b⟩ := F.ex
  exact ⟨fd, F1.ok S len hb, b, F1.kp⟩
/-- a def that may raise -/
theorem okX_of (F : FnAt K x q st ps f) (S : FnScope N ps (defScope st)) (len : ∀ vs H Q E, sp vs H Q E → vs.length = ps.length)
    (hb : ∀ (cdv : Value) (A : Around) (outer : List Env) (s : Shared) (H : Hp) (vs : List V) (Q : VK) (E : XK), Room k (A.deeper (envOfC q (defScope st) s.heap.objs.size f cdv)) → sp vs H Q E →
      ∃ t, PSs (cxOf (L2N.CX P w) P w K mg base N q (defScope st) f cdv A outer s H E) (defBody st) t ∧ t { nx := fun _ H' => Q .non H', rt := Q } (start N vs) H) : Ok P w K mg base (L2N.CX P w) (k + 1) f ps sp := by
  obtain ⟨fd, F1, b⟩ := F.ex
  obtain ⟨⟨oc, od, kV, doc, pm, an, cdv, ct, osl, rfl, l, c⟩, kp⟩ := F1
  exact ⟨_, fn_of l c S len (hb cdv), b, kp⟩
end
section
variable {X : Cx} {j k : Nat} {f C : Addr} {ps : List Str} {sp : Sp} {x m : Str} {q pos apos : Pos} {e o : Expr} {es : List Expr} {ta : TE} {t : TA} {E : XK} {W : WX}
theorem fn_call (G : Ok X.prog X.w X.K X.mg X.base CX0 j f ps sp) (hm : X.mg x = some (.ref f)) (hr : Room k X.A) (ha : PA X (e :: es) t) (hj : j ≤ k := by decide) (hg : Gl X x := by rfl)
    (hdb : (x == ("__debug__" : Str)) = false := by decide) (he : starEach (e :: es) X.env = (false, eval e X.env) :: starEach es X.env := by rfl) (hpl : (backTo pos (starEach es X.env)).any (·.1) = false := by rfl) :
    PE X (.Call (.Name x q) (e :: es) [] pos) (tCall sp [] E0 t) := by
  obtain ⟨fd, F, b, kp⟩ := G
  exact pe_call F (hr.mono hj) hg hm kp b .nil pass0 ha hdb he hpl
theorem fn_callX (G : Ok X.prog X.w X.K X.mg X.base (L2N.CX X.prog X.w) j f ps sp) (hm : X.mg x = some (.ref f)) (hr : Room k X.A) (tk : L2N.Takes X W) (hW : ∀ cls d σ H, E cls d H → W cls d σ H) (ha : PA X (e :: es) t) (hj : j ≤ k := by decide) (hg : Gl X x := by rfl)
    (hdb : (x == ("__debug__" : Str)) = false := by decide) (he : starEach (e :: es) X.env = (false, eval e X.env) :: starEach es X.env := by rfl) (hpl : (backTo pos (starEach es X.env)).any (·.1) = false := by rfl) :
    PE X (.Call (.Name x q) (e :: es) [] pos) (tCall sp [] E t) := by
  obtain ⟨fd, F, b, kp⟩ := G
  exact pe_call F (hr.mono hj) hg hm kp b .nil (L2N.passes_call tk hW) ha hdb he hpl
theorem fn_meth {pl : Sem Bool} (G : Ok X.prog X.w X.K X.mg X.base CX0 j f ps sp) (c : Cls X.K C) (hm : Meth X.K C m f) (hr : Room k X.A) (he : PE X o ta) (ha : PA X (e :: es) t) (hj : j ≤ k := by decide)
    (hst : starEach (e :: es) X.env = (false, eval e X.env) :: starEach es X.env := by rfl) (hpl : (backTo pos (starEach es X.env)).any (·.1) = false := by rfl)
    (ht : eval (.Call (.Attribute o m apos) (e :: es) [] pos) X.env = (do
      let ov ← eval o X.env
      standAt apos.atName
      let (f, first) ← holding [ov] (getMethod ov m pl)
      callWith pos f first (backTo pos (starEach (e :: es) X.env)) (backToKw pos (keywordEach [] X.env))) := by rfl) :
    PE X (.Call (.Attribute o m apos) (e :: es) [] pos) (tMeth C m sp [] E0 ta t) := by
  obtain ⟨fd, F, b, kp⟩ := G
  exact pe_meth (pl := pl) he c hm F (hr.mono hj) b .nil pass0 ha hst hpl ht
theorem fn_methX {pl : Sem Bool} (G : Ok X.prog X.w X.K X.mg X.base (L2N.CX X.prog X.w) j f ps sp) (c : Cls X.K C) (hm : Meth X.K C m f) (hr : Room k X.A) (tk : L2N.Takes X W) (hW : ∀ cls d σ H, E cls d H → W cls d σ H) (he : PE X o ta) (ha : PA X (e :: es) t) (hj : j ≤ k := by decide)
    (hst : starEach (e :: es) X.env = (false, eval e X.env) :: starEach es X.env := by rfl) (hpl : (backTo pos (starEach es X.env)).any (·.1) = false := by rfl)
    (ht : eval (.Call (.Attribute o m apos) (e :: es) [] pos) X.env = (do
      let ov ← eval o X.env
      standAt apos.atName
      let (f, first) ← holding [ov] (getMethod ov m pl)
      callWith pos f first (backTo pos (starEach (e :: es) X.env)) (backToKw pos (keywordEach [] X.env))) := by rfl) :
    PE X (.Call (.Attribute o m apos) (e :: es) [] pos) (tMeth C m sp [] E ta t) := by
  obtain ⟨fd, F, b, kp⟩ := G
  exact pe_meth (pl := pl) he c hm F (hr.mono hj) b .nil (L2N.passes_call tk hW) ha hst hpl ht
theorem fn_meth0 {pl : Sem Bool} (G : Ok X.prog X.w X.K X.mg X.base CX0 j f ps sp) (c : Cls X.K C) (hm : Meth X.K C m f) (hr : Room k X.A) (he : PE X o ta) (hj : j ≤ k := by decide)
    (ht : eval (.Call (.Attribute o m apos) [] [] pos) X.env = (do
      let ov ← eval o X.env
      standAt apos.atName
      let (f, first) ← holding [ov] (getMethod ov m pl)
      callWith pos f first (backTo pos (starEach [] X.env)) (backToKw pos (keywordEach [] X.env))) := by rfl) :
    PE X (.Call (.Attribute o m apos) [] [] pos) (tMeth C m sp [] E0 ta tNil) := by
  obtain ⟨fd, F, b, kp⟩ := G
  exact pe_meth0 (pl := pl) he c hm F (hr.mono hj) b .nil pass0 ht
theorem fn_make (M : Mk X.K C f) (G : Ok X.prog X.w X.K X.mg X.base CX0 j f ps sp) (hm : X.mg x = some (.ref C)) (hr : Room k X.A) (ha : PA X (e :: es) t) (hj : j + 1 ≤ k := by decide) (hg : Gl X x := by rfl)
    (hdb : (x == ("__debug__" : Str)) = false := by decide) (he : starEach (e :: es) X.env = (false, eval e X.env) :: starEach es X.env := by rfl) (hpl : (backTo pos (starEach es X.env)).any (·.1) = false := by rfl) :
    PE X (.Call (.Name x q) (e :: es) [] pos) (tMake C sp [] E0 t) := by
  obtain ⟨fd, F, b, kp⟩ := G
  exact pe_make M F (hr.mono hj) hg hm b .nil pass0 ha hdb he hpl
theorem fn_make0 (M : Mk X.K C f) (G : Ok X.prog X.w X.K X.mg X.base CX0 j f ps sp) (hm : X.mg x = some (.ref C)) (hr : Room k X.A) (hj : j + 1 ≤ k := by decide) (hg : Gl X x := by rfl)
    (hdb : (x == ("__debug__" : Str)) = false := by decide) : PE X (.Call (.Name x q) [] [] pos) (tMake C sp [] E0 tNil) := by
  obtain ⟨fd, F, b, kp⟩ := G
  exact pe_make0 M F (hr.mono hj) hg hm b .nil pass0 hdb
end

/-! ### tuples and lists of the written part, of the heap -/
theorem WrT.at {K : PySem.W.Frag} {a : Addr} {xs : List V} (h : WrT K a xs) (H : Hp) : SqT K H a xs := by
  obtain ⟨o, its, n, h1, h2, _, h3, h4, h5⟩ := h
  exact .inr ⟨o, its, n, h1, h2, h3, h4, h5⟩
theorem WrT.ty {K : PySem.W.Frag} {a : Addr} {xs : List V} (h : WrT K a xs) : ∃ o, K.lookup a = some o ∧ o.cls = .type "tuple" ∧ o.dict = none := by
  obtain ⟨o, its, n, h1, h2, h3, _⟩ := h
  exact ⟨o, h1, h2, h3⟩
theorem _root_.L2.Same.tup {K : PySem.W.Frag} {H H' : Hp} {a : Addr} {xs : List V} (e : Same H H') (h : SqT K H a xs) : SqT K H' a xs := by
  rcases h with (h | ⟨o, h⟩) | h
  · exact .inl (.inl (e _ _ h))
  · exact .inl (.inr ⟨o, e _ _ h⟩)
  · exact .inr h
theorem _root_.L2.Same.new {H : Hp} {p : Addr} {o : HO} (h : H p = none) : Same H (upd H p o) := fun a u e => by
  rw [upd_ne (ne_of_none e h)]
  exact e
/-- an object that H does not know may change -/
theorem _root_.L2.Same.mut {H H' : Hp} {p : Addr} {o : HO} (e : Same H H') (h : H p = none) : Same H (upd H' p o) := fun a u ha => by
  rw [upd_ne (ne_of_none ha h)]
  exact e a u ha

/-! ### the ghost map: which address is which cell of which link -/
abbrev Pth := Nat × Nat × Nat
inductive Rol where
  | obj | ends | ques | que (b : Bool) | eobj (s : Bool) | cnt (s : Bool) | inbs (s : Bool) | inn (s k : Bool) | hist (s g : Bool) | rows (s g k : Bool) | row (s g k : Bool) (i : Nat)
  deriving DecidableEq
abbrev Gh := Addr → Option (Pth × Rol)
def gset (ρ : Gh) (p : Addr) (x : Pth × Rol) : Gh := fun b => if b = p then some x else ρ b
theorem gset_same {ρ : Gh} {p : Addr} {x : Pth × Rol} : gset ρ p x p = some x := if_pos rfl
theorem gset_ne {ρ : Gh} {p b : Addr} {x : Pth × Rol} (h : b ≠ p) : gset ρ p x b = ρ b := if_neg h
def Trk (ρ : Gh) (H : Hp) : Prop := ∀ b x, ρ b = some x → (∃ xs, H b = some (.lst xs)) ∨ ∃ C dx fs, H b = some (.ins C dx fs)
theorem Trk.free {ρ : Gh} {H : Hp} (t : Trk ρ H) {p : Addr} (h : H p = none) : ρ p = none := by
  cases e : ρ p with
  | none => rfl
  | some x =>
    rcases t p x e with ⟨xs, z⟩ | ⟨C, dx, fs, z⟩ <;> rw [h] at z <;> cases z
theorem Trk.same {ρ : Gh} {H H' : Hp} (t : Trk ρ H) (s : Same H H') : Trk ρ H' := fun b x e => by
  rcases t b x e with ⟨xs, z⟩ | ⟨C, dx, fs, z⟩
  · exact .inl ⟨xs, s _ _ z⟩
  · exact .inr ⟨C, dx, fs, s _ _ z⟩
/-- what may carry a role -/
def Rolled : HO → Prop
  | .lst _ => True
  | .ins _ _ _ => True
  | _ => False
theorem Rolled.or {H : Hp} {b : Addr} {o : HO} (r : Rolled o) (h : H b = some o) : (∃ xs, H b = some (.lst xs)) ∨ ∃ C dx fs, H b = some (.ins C dx fs) := by
  cases o with
  | lst xs => exact .inl ⟨xs, h⟩
  | ins C dx fs => exact .inr ⟨C, dx, fs, h⟩
  | _ => exact r.elim
/-- a step: only cells of S and new ones have changed -/
structure Stp (S : Pth × Rol → Prop) (ρ ρ' : Gh) (H H' : Hp) : Prop where
  t0 : Trk ρ H
  ext : ∀ b x, ρ b = some x → ρ' b = some x
  nw : ∀ b x, ρ' b = some x → ρ b = some x ∨ H b = none
  trk : Trk ρ' H'
  fr : ∀ b o, H b = some o → (∀ x, ρ b = some x → ¬ S x) → H' b = some o
section
variable {S S' : Pth × Rol → Prop} {ρ ρ' ρ'' : Gh} {H H' H'' : Hp} {a p : Addr} {o : HO} {x : Pth × Rol} {K : PySem.W.Frag} {xs : List V}
theorem Stp.refl (t : Trk ρ H) : Stp S ρ ρ H H := ⟨t, fun _ _ h => h, fun _ _ h => .inl h, t, fun _ _ h _ => h⟩
theorem Stp.mono (s : Stp S ρ ρ' H H') (h : ∀ x, S x → S' x) : Stp S' ρ ρ' H H' := ⟨s.t0, s.ext, s.nw, s.trk, fun b o e n => s.fr b o e fun x q z => n x q (h x z)⟩
theorem Stp.there (s : Stp S ρ ρ' H H') {b : Addr} (h : H' b = none) : H b = none := by
  cases e : H b with
  | none => rfl
  | some u =>
    cases q : ρ b with
    | none =>
      have z := s.fr b u e (fun x r => by rw [q] at r; cases r)
      rw [h] at z; cases z
    | some y =>
      have z := s.trk.free h
      rw [s.ext b y q] at z; cases z
theorem Stp.trans (s : Stp S ρ ρ' H H') (t : Stp S ρ' ρ'' H' H'') : Stp S ρ ρ'' H H'' where
  t0 := s.t0
  ext := fun b x h => t.ext b x (s.ext b x h)
  nw := fun b x h => by
    rcases t.nw b x h with q | q
    · exact s.nw b x q
    · exact .inr (s.there q)
  trk := t.trk
  fr := fun b o h n => t.fr b o (s.fr b o h n) fun x q => by
    rcases s.nw b x q with r | r
    · exact n x r
    · rw [h] at r; cases r
theorem Stp.same (t : Trk ρ H) (e : Same H H') : Stp S ρ ρ H H' := ⟨t, fun _ _ h => h, fun _ _ h => .inl h, t.same e, fun b o h _ => e b o h⟩
theorem Stp.new (s : Stp S ρ ρ' H H') (h : H' p = none) : Stp S ρ ρ' H (upd H' p o) := s.trans (Stp.same s.trk (Same.new h))
/-- a new cell -/
theorem Stp.cell (s : Stp S ρ ρ' H H') (h : H' p = none) (r : Rolled o) : Stp S ρ (gset ρ' p x) H (upd H' p o) := by
  have n := s.trk.free h
  refine s.trans ⟨s.trk, fun b y e => ?_, fun b y e => ?_, fun b y e => ?_, fun b u e _ => by rw [upd_ne (ne_of_none e h)]; exact e⟩
  · have hb : b ≠ p := fun z => by rw [z, n] at e; cases e
    rw [gset_ne hb]; exact e
  · by_cases hb : b = p
    · exact .inr (by rw [hb]; exact h)
    · rw [gset_ne hb] at e; exact .inl e
  · by_cases hb : b = p
    · rw [hb]; exact r.or upd_same
    · rw [gset_ne hb] at e
      rcases s.trk b y e with ⟨xs, z⟩ | ⟨C, dx, fs, z⟩
      · exact .inl ⟨xs, by rw [upd_ne hb]; exact z⟩
      · exact .inr ⟨C, dx, fs, by rw [upd_ne hb]; exact z⟩
/-- a cell is written -/
theorem Stp.wr (s : Stp S ρ ρ' H H') (h : ρ' a = some x) (hS : S x) (r : Rolled o) : Stp S ρ ρ' H (upd H' a o) := by
  refine s.trans ⟨s.trk, fun _ _ e => e, fun _ _ e => .inl e, fun b y e => ?_, fun b u e n => ?_⟩
  · by_cases hb : b = a
    · rw [hb]; exact r.or upd_same
    · rcases s.trk b y e with ⟨xs, z⟩ | ⟨C, dx, fs, z⟩
      · exact .inl ⟨xs, by rw [upd_ne hb]; exact z⟩
      · exact .inr ⟨C, dx, fs, by rw [upd_ne hb]; exact z⟩
  · have hb : b ≠ a := fun z => n x (by rw [z]; exact h) hS
    rw [upd_ne hb]; exact e
/-- an object of no role that was not there at the start may change -/
theorem Stp.mut (s : Stp S ρ ρ' H H') (h : H p = none) (n : ρ' p = none) : Stp S ρ ρ' H (upd H' p o) where
  t0 := s.t0
  ext := s.ext
  nw := s.nw
  trk := fun b y e => by
    have hb : b ≠ p := fun z => by rw [z, n] at e; cases e
    rcases s.trk b y e with ⟨xs, z⟩ | ⟨C, dx, fs, z⟩
    · exact .inl ⟨xs, by rw [upd_ne hb]; exact z⟩
    · exact .inr ⟨C, dx, fs, by rw [upd_ne hb]; exact z⟩
  fr := fun b u e z => by rw [upd_ne (ne_of_none e h)]; exact s.fr b u e z
/-- what bears no role stands -/
theorem Stp.keep (s : Stp S ρ ρ' H H') (h : H a = some o) (n : ρ a = none) : H' a = some o := s.fr a o h fun x q => by rw [n] at q; cases q
theorem Trk.norole (t : Trk ρ H) (h : H a = some o) (n : ¬ Rolled o) : ρ a = none := by
  cases e : ρ a with
  | none => rfl
  | some y =>
    rcases t a y e with ⟨xs, z⟩ | ⟨C, dx, fs, z⟩ <;> (rw [h] at z; cases z; exact absurd trivial n)
theorem Stp.tup (s : Stp S ρ ρ' H H') (h : SqT K H a xs) : SqT K H' a xs := by
  rcases h with (h | ⟨ob, h⟩) | h
  · exact .inl (.inl (s.keep h (s.t0.norole h fun z => z)))
  · exact .inl (.inr ⟨ob, s.keep h (s.t0.norole h fun z => z)⟩)
  · exact .inr h
theorem Stp.role (s : Stp S ρ ρ' H H') (n : ρ a = none) (h : H a = some o) : ρ' a = none := by
  cases e : ρ' a with
  | none => rfl
  | some y =>
    rcases s.nw a y e with q | q
    · rw [n] at q; cases q
    · rw [h] at q; cases q
/-- the tuples stand -/
def TSt (K : PySem.W.Frag) (H H' : Hp) : Prop := ∀ a xs, SqT K H a xs → SqT K H' a xs
theorem Stp.tst (s : Stp S ρ ρ' H H') : TSt K H H' := fun _ _ h => s.tup h
theorem _root_.L2.Same.tst (e : Same H H') : TSt K H H' := fun _ _ h => e.tup h
end

/-! ### cells -/
structure Cel (ρ : Gh) (H : Hp) (x : Pth × Rol) (a : Addr) (o : HO) : Prop where
  r : ρ a = some x
  h : H a = some o
section
variable {S : Pth × Rol → Prop} {ρ ρ' : Gh} {H H' : Hp} {a b p : Addr} {o u : HO} {x y : Pth × Rol}
theorem Cel.ne (c : Cel ρ H x a o) (h : ρ b = some y) (n : x ≠ y) : a ≠ b := fun z => by
  have q := c.r
  rw [z, h] at q
  exact n (Option.some.inj q).symm
theorem Cel.wr (c : Cel ρ H x a o) (h : ρ b = some y) (n : x ≠ y) : Cel ρ (upd H b u) x a o := ⟨c.r, by rw [upd_ne (c.ne h n)]; exact c.h⟩
theorem Cel.new (c : Cel ρ H x a o) (h : H p = none) : Cel ρ (upd H p u) x a o := ⟨c.r, by rw [upd_ne (ne_of_none c.h h)]; exact c.h⟩
theorem Cel.stp (c : Cel ρ H x a o) (s : Stp S ρ ρ' H H') (n : ¬ S x) : Cel ρ' H' x a o := ⟨s.ext _ _ c.r, s.fr a o c.h fun y e z => n (by rw [c.r] at e; cases e; exact z)⟩
theorem Cel.set (r : ρ a = some x) : Cel ρ (upd H a o) x a o := ⟨r, upd_same⟩
theorem Cel.made {H : Hp} : Cel (gset ρ p x) (upd H p o) x p o := ⟨gset_same, upd_same⟩
end
end Rl
end
section
set_option Elab.async false
set_option linter.all false
set_option maxRecDepth 100000
set_option maxHeartbeats 4000000
/-! RlVal: the program's values, and the defs that make them, write them in octets. -/
namespace Rl
open PySem PySem.Spec PyProof.Rows L2

/-- a text's codes; octets -/
def cV (z : Str) : List V := z.cps.toList.map fun c => V.int (c : Nat)
def oV (u : List UInt8) : List V := u.map fun b => V.int (b.toNat : Nat)
theorem cV_length (z : Str) : (cV z).length = z.length := by simp [cV, Str.length]
theorem oV_length (u : List UInt8) : (oV u).length = u.length := by simp [oV]
theorem oV_app (a b : List UInt8) : oV (a ++ b) = oV a ++ oV b := List.map_append

/-! ### comprehensions whose elements only make new things -/
theorem TSt.refl {K : PySem.W.Frag} (H : Hp) : TSt K H H := fun _ _ h => h
theorem TSt.trans {K : PySem.W.Frag} {H H1 H2 : Hp} (a : TSt K H H1) (b : TSt K H1 H2) : TSt K H H2 := fun c xs h => b c xs (a c xs h)
theorem TSt.upd {K : PySem.W.Frag} {H : Hp} {p : Addr} {o u : HO} (h : H p = some o) (n : Rolled o) : TSt K H (upd H p u) := fun a xs q => by
  rcases q with (q | ⟨ob, q⟩) | q
  · exact .inl (.inl (by rw [upd_ne (fun z => by rw [z, h] at q; cases q; exact n)]; exact q))
  · exact .inl (.inr ⟨ob, by rw [upd_ne (fun z => by rw [z, h] at q; cases q; exact n)]; exact q⟩)
  · exact .inr q
section
variable {J : It} {n : Nat} {G : Hp → Prop} {Y : Nat → Hp → V → Hp → Prop} {K : PySem.W.Frag}
theorem lc_tst (w : Walk J n G Y) {g : TG} {te : TE} {vs : List Nat} {σ : L2.St} {H1 : Hp} {D : Addr} {Qd : Hp → Prop} (R : Nat → V → Hp → Prop) (hR : ∀ i v H H', TSt K H H' → R i v H → R i v H') (hD : H1 D = none) (hn : n ≤ sizeLine)
    (hG : ∀ H, Same H1 H → G H)
    (hs : ∀ i x H H' (Q : VK), i < n → Same H1 H → Y i H x H' → (∀ y H4, Same H H4 → R i y H4 → Q y H4) → g x (wipe σ vs) H' fun σ2 H2 => wipe σ2 vs = wipe σ vs ∧ te σ2 H2 Q)
    (hd : ∀ H ys, Same H1 H → H D = some (.lst ys) → ys.length = n → (∀ i y, ys[i]? = some y → R i y H) → Qd H) :
    ∃ W : Nat → Nat → Hp → Prop, (∃ m, W 0 m (upd H1 D (.lst []))) ∧ ∀ i m H, W i m H →
      (J.stop i H ∧ Qd H) ∨ (J.go i H ∧ ∃ Nx : Hp → Prop, (∀ H', Nx H' → ∃ m', m' < m ∧ W (i + 1) m' H') ∧ ∀ x H', J.yld i H x H' → g x (wipe σ vs) H' fun σ2 H2 => wipe σ2 vs = wipe σ vs ∧ tYes σ2 H2 fun b H3 =>
        if b = true then te σ2 H3 fun y H4 => ∃ acc, H4 D = some (.lst acc) ∧ acc.length < sizeLine ∧ Nx (upd H4 D (.lst (acc ++ [y]))) else Nx H3) := by
  refine lc_it w (fun i H => Same H1 H ∧ ∃ ys, H D = some (.lst ys) ∧ ys.length = i ∧ ∀ j y, ys[j]? = some y → R j y H) ⟨Same.new hD, [], upd_same, rfl, fun j y h => by simp at h⟩ (fun i H _ p => hG H p.1) ?_ (fun H p => ?_)
  · rintro i x H H' hi ⟨s, ys, hy, hl, hr⟩ y
    refine hs i x H H' _ hi s y fun z H4 s4 r4 => ⟨ys, s4 _ _ hy, by omega, ?_⟩
    have hy4 := s4 _ _ hy
    have tt : TSt K H4 (upd H4 D (.lst (ys ++ [z]))) := TSt.upd hy4 trivial
    refine ⟨(s.trans s4).mut hD, ys ++ [z], upd_same, by simp [hl], fun j v hv => ?_⟩
    by_cases hj : j < ys.length
    · rw [List.getElem?_append_left hj] at hv
      exact hR j v _ _ (s4.tst.trans tt) (hr j v hv)
    · rw [List.getElem?_append_right (by omega)] at hv
      have e : j = ys.length := by
        have := (List.getElem?_eq_some_iff.mp hv).1
        simp at this; omega
      subst e
      simp at hv
      subst hv
      rw [hl]
      exact hR _ _ _ _ tt r4
  · obtain ⟨s, ys, hy, hl, hr⟩ := p
    exact hd H ys s hy hl hr
end

/-! ### values -/
open RWire (Value) in
mutual
def VR (K : PySem.W.Frag) (H : Hp) : RWire.Value → V → Prop
  | .nothing, v => ∃ p, v = .ref p ∧ SqT K H p [.int 0]
  | .null, v => ∃ p, v = .ref p ∧ SqT K H p [.int 1]
  | .bool b, v => ∃ p, v = .ref p ∧ SqT K H p [.int (if b then 3 else 2)]
  | .int i, v => ∃ p, v = .ref p ∧ SqT K H p [.int 4, .int i]
  | .text u, v => ∃ p q, v = .ref p ∧ SqT K H p [.int 6, .ref q] ∧ SqT K H q (oV u)
  | .list l, v => ∃ p q xs, v = .ref p ∧ SqT K H p [.int 7, .ref q] ∧ SqT K H q xs ∧ VRs K H l xs
  | .record l, v => ∃ p q xs, v = .ref p ∧ SqT K H p [.int 8, .ref q] ∧ SqT K H q xs ∧ VRe K H l xs
  | .big _, _ => False
  | .octets _, _ => False
  | .wide _, _ => False
def VRs (K : PySem.W.Frag) (H : Hp) : List RWire.Value → List V → Prop
  | [], xs => xs = []
  | v :: r, xs => ∃ x ys, xs = x :: ys ∧ VR K H v x ∧ VRs K H r ys
def VRe (K : PySem.W.Frag) (H : Hp) : List (RWire.Text × RWire.Value) → List V → Prop
  | [], xs => xs = []
  | e :: r, xs => ∃ t n y ys, xs = .ref t :: ys ∧ SqT K H t [.ref n, y] ∧ SqT K H n (oV e.1) ∧ VR K H e.2 y ∧ VRe K H r ys
end
section
variable {K : PySem.W.Frag} {H H' : Hp}
mutual
theorem VR.tst (t : TSt K H H') : ∀ (v : RWire.Value) (x : V), VR K H v x → VR K H' v x
  | .nothing, x, h => by
    unfold VR at h ⊢
    obtain ⟨p, e, q⟩ := h
    exact ⟨p, e, t _ _ q⟩
  | .null, x, h => by
    unfold VR at h ⊢
    obtain ⟨p, e, q⟩ := h
    exact ⟨p, e, t _ _ q⟩
  | .bool b, x, h => by
    unfold VR at h ⊢
    obtain ⟨p, e, q⟩ := h
    exact ⟨p, e, t _ _ q⟩
  | .int i, x, h => by
    unfold VR at h ⊢
    obtain ⟨p, e, q⟩ := h
    exact ⟨p, e, t _ _ q⟩
  | .text u, x, h => by
    unfold VR at h ⊢
    obtain ⟨p, q, e, h1, h2⟩ := h
    exact ⟨p, q, e, t _ _ h1, t _ _ h2⟩
  | .list l, x, h => by
    unfold VR at h ⊢
    obtain ⟨p, q, xs, e, h1, h2, h3⟩ := h
    exact ⟨p, q, xs, e, t _ _ h1, t _ _ h2, VRs.tst t l xs h3⟩
  | .record l, x, h => by
    unfold VR at h ⊢
    obtain ⟨p, q, xs, e, h1, h2, h3⟩ := h
    exact ⟨p, q, xs, e, t _ _ h1, t _ _ h2, VRe.tst t l xs h3⟩
  | .big _, x, h => by unfold VR at h; exact h.elim
  | .octets _, x, h => by unfold VR at h; exact h.elim
  | .wide _, x, h => by unfold VR at h; exact h.elim
theorem VRs.tst (t : TSt K H H') : ∀ (l : List RWire.Value) (xs : List V), VRs K H l xs → VRs K H' l xs
  | [], xs, h => by unfold VRs at h ⊢; exact h
  | v :: r, xs, h => by
    unfold VRs at h ⊢
    obtain ⟨x, ys, e, h1, h2⟩ := h
    exact ⟨x, ys, e, VR.tst t v x h1, VRs.tst t r ys h2⟩
theorem VRe.tst (t : TSt K H H') : ∀ (l : List (RWire.Text × RWire.Value)) (xs : List V), VRe K H l xs → VRe K H' l xs
  | [], xs, h => by unfold VRe at h ⊢; exact h
  | e :: r, xs, h => by
    unfold VRe at h ⊢
    obtain ⟨a, n, y, ys, e1, h1, h2, h3, h4⟩ := h
    exact ⟨a, n, y, ys, e1, t _ _ h1, t _ _ h2, VR.tst t e.2 y h3, VRe.tst t r ys h4⟩
end
theorem VRs.length : ∀ {l : List RWire.Value} {xs : List V}, VRs K H l xs → xs.length = l.length
  | [], xs, h => by unfold VRs at h; rw [h]; rfl
  | v :: r, xs, h => by
    unfold VRs at h
    obtain ⟨x, ys, e, _, h2⟩ := h
    rw [e, List.length_cons, List.length_cons, VRs.length h2]
theorem VRe.length : ∀ {l : List (RWire.Text × RWire.Value)} {xs : List V}, VRe K H l xs → xs.length = l.length
  | [], xs, h => by unfold VRe at h; rw [h]; rfl
  | v :: r, xs, h => by
    unfold VRe at h
    obtain ⟨_, _, _, ys, e, _, _, _, h2⟩ := h
    rw [e, List.length_cons, List.length_cons, VRe.length h2]
theorem VRs.mk : ∀ {l : List RWire.Value} {xs : List V}, xs.length = l.length → (∀ (i : Nat) (v : RWire.Value) (x : V), l[i]? = some v → xs[i]? = some x → VR K H v x) → VRs K H l xs
  | [], xs, hl, _ => by
    unfold VRs
    exact List.length_eq_zero_iff.mp hl
  | v :: r, [], hl, _ => by simp at hl
  | v :: r, x :: ys, hl, h => by
    unfold VRs
    exact ⟨x, ys, rfl, h 0 v x rfl rfl, VRs.mk (by simpa using hl) fun i v' x' h1 h2 => h (i + 1) v' x' h1 h2⟩
theorem VRs.get : ∀ {l : List RWire.Value} {xs : List V} {i : Nat} {v : RWire.Value}, VRs K H l xs → l[i]? = some v → ∃ x, xs[i]? = some x ∧ VR K H v x
  | [], xs, i, v, _, hv => by simp at hv
  | a :: r, xs, 0, v, h, hv => by
    unfold VRs at h
    obtain ⟨x, ys, e, h1, _⟩ := h
    cases hv
    exact ⟨x, by rw [e]; rfl, h1⟩
  | a :: r, xs, i + 1, v, h, hv => by
    unfold VRs at h
    obtain ⟨x, ys, e, _, h2⟩ := h
    obtain ⟨y, q1, q2⟩ := VRs.get (i := i) h2 hv
    exact ⟨y, by rw [e]; exact q1, q2⟩
theorem VRs.app : ∀ {l m : List RWire.Value} {xs ys : List V}, VRs K H l xs → VRs K H m ys → VRs K H (l ++ m) (xs ++ ys)
  | [], m, xs, ys, h, k => by
    unfold VRs at h
    subst h
    exact k
  | v :: r, m, xs, ys, h, k => by
    unfold VRs at h
    obtain ⟨x, zs, e, h1, h2⟩ := h
    subst e
    show VRs K H (v :: (r ++ m)) (x :: (zs ++ ys))
    unfold VRs
    exact ⟨x, zs ++ ys, rfl, h1, VRs.app h2 k⟩
theorem VRe.mk : ∀ {l : List (RWire.Text × RWire.Value)} {xs : List V}, xs.length = l.length →
    (∀ (i : Nat) (e : RWire.Text × RWire.Value) (x : V), l[i]? = some e → xs[i]? = some x → ∃ (t n : Addr) (y : V), x = .ref t ∧ SqT K H t [.ref n, y] ∧ SqT K H n (oV e.1) ∧ VR K H e.2 y) → VRe K H l xs
  | [], xs, hl, _ => by
    unfold VRe
    exact List.length_eq_zero_iff.mp hl
  | v :: r, [], hl, _ => by simp at hl
  | v :: r, x :: ys, hl, h => by
    unfold VRe
    obtain ⟨t, n, y, h1, h2, h3, h4⟩ := h 0 v x rfl rfl
    exact ⟨t, n, y, ys, by rw [h1], h2, h3, h4, VRe.mk (by simpa using hl) fun i v' x' h1 h2 => h (i + 1) v' x' h1 h2⟩
theorem VRe.get : ∀ {l : List (RWire.Text × RWire.Value)} {xs : List V} {i : Nat} {e : RWire.Text × RWire.Value}, VRe K H l xs → l[i]? = some e → ∃ t n y, xs[i]? = some (.ref t) ∧ SqT K H t [.ref n, y] ∧ SqT K H n (oV e.1) ∧ VR K H e.2 y
  | [], xs, i, v, _, hv => by simp at hv
  | a :: r, xs, 0, v, h, hv => by
    unfold VRe at h
    obtain ⟨t, n, y, ys, e, h1, h2, h3, _⟩ := h
    cases hv
    exact ⟨t, n, y, by rw [e]; rfl, h1, h2, h3⟩
  | a :: r, xs, i + 1, v, h, hv => by
    unfold VRe at h
    obtain ⟨t, n, y, ys, e, _, _, _, h2⟩ := h
    obtain ⟨t2, n2, y2, q1, q2⟩ := VRe.get (i := i) h2 hv
    exact ⟨t2, n2, y2, by rw [e]; exact q1, q2⟩
end
theorem _root_.L2.Same.vr {K : PySem.W.Frag} {H H' : Hp} (s : Same H H') {v : RWire.Value} {x : V} (h : VR K H v x) : VR K H' v x := VR.tst s.tst v x h

/-! ### codes_of -/
def spCodes : Sp := fun vs H Q _ => ∃ z : Str, vs = [.str z] ∧ z.length ≤ 1000 ∧ ∀ H' p, Same H H' → H' p = some (.tup (cV z)) → Q (.ref p) H'
section
variable {P : Program} {w : World} {K : PySem.W.Frag} {mg : Str → Option Value} {base : Heap} {A : Adr}
theorem ok_codes_of (T : Txt K mg A) : Ok P w K mg base CX0 1 A.f_codes_of p_codes_of spCodes := by
  refine ok_of T.F_codes_of sc_codes_of (fun vs H Q E h => ?_) (fun cdv A' outer s H vs Q E hr h => ?_)
  · obtain ⟨z, rfl, _⟩ := h
    rfl
  · obtain ⟨z, rfl, hz, k⟩ := h
    refine ⟨_, pss_one (ps_ret (pe_callTy call_tuple_of (by rfl) T.b_tuple (by decide +kernel) (pa_cons
      (pe_lc (own := [("sign", 1)]) (g := gName 1) (by rfl) sc_codes_of.nd (pi_str (pv 0)) (blkOk_by (own := [("sign", 1)]) (N := n_codes_of) (sc := defScope s_codes_of) (by decide +kernel)) (fun _ _ _ _ _ => pg_name (i := 1) sc_codes_of.nd rfl (Or.inl rfl)) (fun _ _ _ _ _ => pts_nil)
        (fun _ _ _ _ _ => pe_callB call_ord (by rfl) T.b_ord (by decide +kernel) (pa_cons (pv 1) pa_nil))) pa_nil))), ?_⟩
    refine ⟨_, rfl, z, rfl, fun D hD => ?_⟩
    refine lc_tst (K := K) walk_str (fun i v _ => ∃ c, z.cps[i]? = some c ∧ v = .int (c : Nat)) (fun _ _ _ _ _ h => h) hD (by have := hz; rw [sizeLine_eq]; show z.length ≤ _; omega) (fun _ _ => trivial) ?_ ?_
    · rintro i x H2 H3 Q2 hi s2 ⟨rfl, c, hc, rfl⟩ q
      refine ⟨rfl, _, rfl, _, rfl, rfl, ?_⟩
      exact q _ _ (Same.refl _) ⟨c, hc, rfl⟩
    · intro H2 ys s2 hy hl hR
      have e : ys = cV z := by
        apply List.ext_getElem?
        intro i
        by_cases hi : i < ys.length
        · obtain ⟨c, h1, h2⟩ := hR i _ (List.getElem?_eq_getElem hi)
          rw [List.getElem?_eq_getElem hi, h2]
          unfold cV
          rw [List.getElem?_map, Array.getElem?_toList, h1]; rfl
        · rw [List.getElem?_eq_none (by omega), List.getElem?_eq_none (by rw [cV_length]; show z.cps.size ≤ i; omega)]
      refine ⟨D, ys, rfl, .inl ⟨SqL.of hy, fun l hl => ?_⟩⟩
      refine k _ l (s2.trans (Same.new hl)) ?_
      rw [e]; exact upd_same
end
end Rl
end
section
set_option Elab.async false
set_option linter.all false
set_option maxRecDepth 100000
set_option maxHeartbeats 4000000
/-! RlV2: the makers of values. -/
namespace Rl
open PySem PySem.Spec PyProof.Rows L2

section
variable {X : Cx} {o e : Expr} {to te : TE} {apos cpos pos q : Pos}
theorem pe_append (ho : PE X o to) (he : PE X e te) (hbase : attributeBase o "append" X.env (eval o X.env) = eval o X.env := by rfl)
    (hfew : ((backTo cpos (starEach (e :: []) X.env)).all (fun x => !x.1) && (backToKw cpos (keywordEach [] X.env)).all (fun x => x.1.isSome)
      && decide ((e :: []).length + ([] : List Keyword).length + (if ([] : List Keyword).isEmpty then 0 else 1) < 30)) = true := by rfl)
    (hline : (apos.endLine == cpos.line) = true := by rfl) (hs : starEach (e :: []) X.env = (false, eval e X.env) :: starEach [] X.env := by rfl) (hplain : (backTo cpos (starEach [] X.env)).any (·.1) = false := by rfl) :
    PE X (.Call (.Attribute o "append" apos) [e] [] cpos) (tBM X.K "list" rAppend to (tCons te tNil)) :=
  pe_bm PySem.F.plainAttrs_list PySem.F.slot_list_append PySem.F.type_list_append mt_append ho (pa_cons he pa_nil hs) hbase hfew hline hs hplain
theorem pe_extend (ho : PE X o to) (he : PE X e te) (hbase : attributeBase o "extend" X.env (eval o X.env) = eval o X.env := by rfl)
    (hfew : ((backTo cpos (starEach (e :: []) X.env)).all (fun x => !x.1) && (backToKw cpos (keywordEach [] X.env)).all (fun x => x.1.isSome)
      && decide ((e :: []).length + ([] : List Keyword).length + (if ([] : List Keyword).isEmpty then 0 else 1) < 30)) = true := by rfl)
    (hline : (apos.endLine == cpos.line) = true := by rfl) (hs : starEach (e :: []) X.env = (false, eval e X.env) :: starEach [] X.env := by rfl) (hplain : (backTo cpos (starEach [] X.env)).any (·.1) = false := by rfl) :
    PE X (.Call (.Attribute o "extend" apos) [e] [] cpos) (tBM X.K "list" rExtend to (tCons te tNil)) :=
  pe_bm PySem.F.plainAttrs_list PySem.F.slot_list_extend PySem.F.type_list_extend mt_extend ho (pa_cons he pa_nil hs) hbase hfew hline hs hplain
def rTupOf (K : PySem.W.Frag) : List V → Hp → VK → Prop := fun xs H Q => ∃ p ys, xs = [.ref p] ∧ ((SqL K H p ys ∧ ∀ l, H l = none → Q (.ref l) (upd H l (.tup ys))) ∨ (SqT K H p ys ∧ Q (.ref p) H))
def rLstOf (K : PySem.W.Frag) : List V → Hp → VK → Prop := fun xs H Q => ∃ p ys, xs = [.ref p] ∧ (SqL K H p ys ∨ SqT K H p ys) ∧ ∀ l, H l = none → Q (.ref l) (upd H l (.lst ys))
def rLenOf (K : PySem.W.Frag) : List V → Hp → VK → Prop := fun xs H Q => ∃ p ys, xs = [.ref p] ∧ (SqL K H p ys ∨ SqT K H p ys) ∧ Q (.int ys.length) H
theorem pe_tupOf (hm : X.mg "tuple" = none) (he : PE X e te) (hg : Gl X "tuple" := by rfl) (hs : starEach (e :: []) X.env = (false, eval e X.env) :: starEach [] X.env := by rfl) (hpl : (backTo pos (starEach [] X.env)).any (·.1) = false := by rfl) :
    PE X (.Call (.Name "tuple" q) [e] [] pos) (tCB (rTupOf X.K) (tCons te tNil)) := pe_callTy call_tuple_of hg hm (by decide +kernel) (pa_cons he pa_nil hs) (he := hs) (hpl := hpl)
theorem pe_lstOf (hm : X.mg "list" = none) (he : PE X e te) (hg : Gl X "list" := by rfl) (hs : starEach (e :: []) X.env = (false, eval e X.env) :: starEach [] X.env := by rfl) (hpl : (backTo pos (starEach [] X.env)).any (·.1) = false := by rfl) :
    PE X (.Call (.Name "list" q) [e] [] pos) (tCB (rLstOf X.K) (tCons te tNil)) := pe_callTy call_list_of hg hm (by decide +kernel) (pa_cons he pa_nil hs) (he := hs) (hpl := hpl)
theorem pe_lenOf (hm : X.mg "len" = none) (he : PE X e te) (hg : Gl X "len" := by rfl) (hs : starEach (e :: []) X.env = (false, eval e X.env) :: starEach [] X.env := by rfl) (hpl : (backTo pos (starEach [] X.env)).any (·.1) = false := by rfl) :
    PE X (.Call (.Name "len" q) [e] [] pos) (tCB (rLenOf X.K) (tCons te tNil)) := pe_callB call_len_seq hg hm PySem.boot_len (pa_cons he pa_nil hs) (he := hs) (hpl := hpl)
end
theorem two_le : 2 ≤ sizeLine := by decide
theorem sz_le {n : Nat} (h : n ≤ 16000000) : n ≤ sizeLine := by rw [sizeLine_eq]; omega
theorem sz_lt' {n : Nat} (h : n < 16000000) : n < sizeLine := by rw [sizeLine_eq]; omega

def spInteger (K : PySem.W.Frag) : Sp := fun vs H Q _ => ∃ n : Int, vs = [.int n] ∧ ∀ H' x, Same H H' → VR K H' (.int n) x → Q x H'
def spText (K : PySem.W.Frag) : Sp := fun vs H Q _ => ∃ (z : Str) (u : List UInt8), vs = [.str z] ∧ z.length ≤ 1000 ∧ cV z = oV u ∧ ∀ H' x, Same H H' → VR K H' (.text u) x → Q x H'
def spTruth (K : PySem.W.Frag) : Sp := fun vs H Q _ => ∃ b : Bool, vs = [.bl b] ∧ ∀ H' x, Same H H' → VR K H' (.bool b) x → Q x H'
def spListed (K : PySem.W.Frag) : Sp := fun vs H Q _ => ∃ (a : Addr) (xs : List V) (l : List RWire.Value), vs = [.ref a] ∧ SqL K H a xs ∧ VRs K H l xs ∧ ∀ H' x, Same H H' → VR K H' (.list l) x → Q x H'
def spIntegers (K : PySem.W.Frag) : Sp := fun vs H Q _ => ∃ (a : Addr) (ns : List Int), vs = [.ref a] ∧ SqL K H a (ns.map V.int) ∧ ns.length ≤ sizeLine ∧ ∀ H' x, Same H H' → VR K H' (.list (ns.map RWire.Value.int)) x → Q x H'
/-- a list of pairs of a name and a value -/
def PrAll (K : PySem.W.Frag) (H : Hp) (es : List (RWire.Text × RWire.Value)) (xs : List V) : Prop :=
  xs.length = es.length ∧ ∀ (i : Nat) (e : RWire.Text × RWire.Value) (x : V), es[i]? = some e → xs[i]? = some x → ∃ (t : Addr) (z : Str) (y : V), x = .ref t ∧ SqT K H t [.str z, y] ∧ z.length ≤ 1000 ∧ cV z = oV e.1 ∧ VR K H e.2 y
def spRecord (K : PySem.W.Frag) : Sp := fun vs H Q _ => ∃ (a : Addr) (xs : List V) (es : List (RWire.Text × RWire.Value)), vs = [.ref a] ∧ SqL K H a xs ∧ PrAll K H es xs ∧ es.length ≤ 100 ∧ ∀ H' x, Same H H' → VR K H' (.record es) x → Q x H'
def spLow : Sp := fun vs H Q _ => ∃ (n m : Nat), vs = [.int n, .int m] ∧ m ≤ 8 ∧ ∀ H' p, Same H H' → H p = none → H' p = some (.lst (oV (RWire.low m n))) → Q (.ref p) H'

section
variable {P : Program} {w : World} {K : PySem.W.Frag} {mg : Str → Option Value} {base : Heap} {A : Adr}
theorem ok_integer (T : Txt K mg A) : Ok P w K mg base CX0 1 A.f_integer p_integer (spInteger K) := by
  refine ok_of T.F_integer sc_integer (fun vs H Q E h => ?_) (fun cdv A' outer s H vs Q E hr h => ?_)
  · obtain ⟨n, rfl, _⟩ := h
    rfl
  · obtain ⟨n, rfl, k⟩ := h
    obtain ⟨u, hu, ru⟩ := T.v_INTEGER
    refine ⟨_, pss_one (ps_ret (pe_tup (pa_cons (pe_glob rfl hu ru) (pa_cons (pv 0) pa_nil)))), ?_⟩
    refine ⟨_, rfl, two_le, fun p hp => ?_⟩
    refine k _ _ (Same.new hp) ?_
    unfold VR
    exact ⟨p, rfl, .of upd_same⟩
theorem ok_text (T : Txt K mg A) : Ok P w K mg base CX0 2 A.f_text p_text (spText K) := by
  have G := ok_codes_of (P := P) (w := w) (base := base) T
  refine ok_of T.F_text sc_text (fun vs H Q E h => ?_) (fun cdv A' outer s H vs Q E hr h => ?_)
  · obtain ⟨z, u, rfl, _⟩ := h
    rfl
  · obtain ⟨z, u, rfl, hz, hu, k⟩ := h
    obtain ⟨v, hv, rv⟩ := T.v_TEXT
    refine ⟨_, pss_one (ps_ret (pe_tup (pa_cons (pe_glob rfl hv rv) (pa_cons (fn_call G T.g_codes_of hr (pa_cons (pv 0) pa_nil)) pa_nil)))), ?_⟩
    refine ⟨_, rfl, z, rfl, hz, fun H1 p s1 h1 => ⟨two_le, fun q hq => ?_⟩⟩
    refine k _ _ (s1.trans (Same.new hq)) ?_
    unfold VR
    exact ⟨q, p, rfl, .of upd_same, .of (by rw [upd_ne (ne_of_none h1 hq), h1, hu])⟩
theorem ok_truth (T : Txt K mg A) : Ok P w K mg base CX0 1 A.f_truth p_truth (spTruth K) := by
  refine ok_of T.F_truth sc_truth (fun vs H Q E h => ?_) (fun cdv A' outer s H vs Q E hr h => ?_)
  · obtain ⟨b, rfl, _⟩ := h
    rfl
  · obtain ⟨b, rfl, k⟩ := h
    refine ⟨_, pss_one (ps_ret (pe_ifExp (pt_val (pv 0)) (pe_glob (v := .ref A.t_TRUE) rfl T.v_TRUE rfl) (pe_glob (v := .ref A.t_FALSE) rfl T.v_FALSE rfl))), ?_⟩
    refine ⟨_, rfl, b, rfl, ?_⟩
    cases b with
    | true =>
      refine iteT (k _ _ (Same.refl _) ?_)
      unfold VR
      exact ⟨_, rfl, T.w_TRUE.at H⟩
    | false =>
      refine iteF (k _ _ (Same.refl _) ?_)
      unfold VR
      exact ⟨_, rfl, T.w_FALSE.at H⟩
theorem ok_listed (T : Txt K mg A) : Ok P w K mg base CX0 1 A.f_listed p_listed (spListed K) := by
  refine ok_of T.F_listed sc_listed (fun vs H Q E h => ?_) (fun cdv A' outer s H vs Q E hr h => ?_)
  · obtain ⟨a, xs, l, rfl, _⟩ := h
    rfl
  · obtain ⟨a, xs, l, rfl, ha, hx, k⟩ := h
    obtain ⟨v, hv, rv⟩ := T.v_LIST
    refine ⟨_, pss_one (ps_ret (pe_tup (pa_cons (pe_glob rfl hv rv) (pa_cons (pe_tupOf T.b_tuple (pv 0)) pa_nil)))), ?_⟩
    refine ⟨_, rfl, a, xs, rfl, .inl ⟨ha, fun p hp => ⟨two_le, fun q hq => ?_⟩⟩⟩
    have s1 := (Same.new (o := .tup xs) hp).trans (Same.new (o := .tup [.int 7, .ref p]) hq)
    refine k _ _ s1 ?_
    unfold VR
    exact ⟨q, p, xs, rfl, .of upd_same, .of (by rw [upd_ne (ne_of_none upd_same hq), upd_same]), VRs.tst s1.tst _ _ hx⟩
theorem ok_integers (T : Txt K mg A) : Ok P w K mg base CX0 2 A.f_integers p_integers (spIntegers K) := by
  have G := ok_integer (P := P) (w := w) (base := base) T
  have G2 := ok_listed (P := P) (w := w) (base := base) T
  refine ok_of T.F_integers sc_integers (fun vs H Q E h => ?_) (fun cdv A' outer s H vs Q E hr h => ?_)
  · obtain ⟨a, ns, rfl, _⟩ := h
    rfl
  · obtain ⟨a, ns, rfl, ha, hl, k⟩ := h
    refine ⟨_, pss_one (ps_ret (fn_call G2 T.g_listed hr (pa_cons (pe_lc (own := [("number", 1)]) (g := gName 1) (by rfl) sc_integers.nd (pi_list (pv 0)) (blkOk_by (own := [("number", 1)]) (N := n_integers) (sc := defScope s_integers) (by decide +kernel)) (fun _ _ _ _ _ => pg_name (i := 1) sc_integers.nd rfl (Or.inl rfl)) (fun _ _ _ _ _ => pts_nil)
        (fun _ _ _ _ _ => fn_call G T.g_integer hr (pa_cons (pv 1) pa_nil))) pa_nil))), ?_⟩
    refine ⟨_, rfl, a, rfl, ⟨_, ha⟩, fun D hD => ?_⟩
    refine lc_tst (K := K) (walk_list (xs := ns.map V.int)) (fun i v H => ∃ n, ns[i]? = some n ∧ VR K H (.int n) v) (fun i v H1 H2 t ⟨n, h1, h2⟩ => ⟨n, h1, VR.tst t _ _ h2⟩) hD (by rw [List.length_map]; exact hl) (fun H1 s1 => s1.seq ha) ?_ ?_
    · rintro i x H2 H3 Q2 hi s2 ⟨rfl, hx⟩ q
      rw [List.getElem?_map] at hx
      cases e : ns[i]? with
      | none => rw [e] at hx; cases hx
      | some n =>
        rw [e] at hx
        cases hx
        refine ⟨rfl, _, rfl, n, rfl, fun H4 y s4 r4 => ?_⟩
        exact q _ _ s4 ⟨n, e, r4⟩
    · intro H2 ys s2 hy hl2 hR
      refine ⟨D, ys, ns.map RWire.Value.int, rfl, .of hy, VRs.mk (by rw [hl2, List.length_map, List.length_map]) fun i v x h1 h2 => ?_, fun H3 x s3 h3 => k _ _ (s2.trans s3) h3⟩
      obtain ⟨n, e, r⟩ := hR i x h2
      rw [List.getElem?_map, e] at h1
      cases h1
      exact r
theorem ok_record (T : Txt K mg A) : Ok P w K mg base CX0 2 A.f_record p_record (spRecord K) := by
  have G := ok_codes_of (P := P) (w := w) (base := base) T
  refine ok_of T.F_record sc_record (fun vs H Q E h => ?_) (fun cdv A' outer s H vs Q E hr h => ?_)
  · obtain ⟨a, xs, es, rfl, _⟩ := h
    rfl
  · obtain ⟨a, xs, es, rfl, ha, ⟨hl, hp⟩, hle, k⟩ := h
    obtain ⟨v, hv, rv⟩ := T.v_RECORD
    refine ⟨_, pss_one (ps_ret (pe_tup (pa_cons (pe_glob rfl hv rv) (pa_cons (pe_tupOf T.b_tuple
      (pe_lc (own := [("name", 1), ("value", 2)]) (g := gTup K 2 (gCons (gName 1) (gCons (gName 2) gNil))) (by rfl) sc_record.nd (pi_list (pv 0)) (blkOk_by (own := [("name", 1), ("value", 2)]) (N := n_record) (sc := defScope s_record) (by decide +kernel))
        (fun _ _ _ _ _ => pg_tup (n := 2) rfl (pgs_cons (pg_name (i := 1) sc_record.nd rfl (Or.inl rfl)) (pgs_cons (pg_name (i := 2) sc_record.nd rfl (Or.inl rfl)) pgs_nil))) (fun _ _ _ _ _ => pts_nil)
        (fun _ _ _ _ _ => pe_tup (pa_cons (fn_call G T.g_codes_of hr (pa_cons (pv 1) pa_nil)) (pa_cons (pv 2) pa_nil))))) pa_nil)))), ?_⟩
    refine ⟨_, rfl, a, rfl, ⟨_, ha⟩, fun D hD => ?_⟩
    refine lc_tst (K := K) (walk_list (xs := xs)) (fun i x H => ∃ e, es[i]? = some e ∧ ∃ (t n : Addr) (y : V), x = .ref t ∧ SqT K H t [.ref n, y] ∧ SqT K H n (oV e.1) ∧ VR K H e.2 y)
      (fun i x H1 H2 t ⟨e, h1, t1, n, y, h2, h3, h4, h5⟩ => ⟨e, h1, t1, n, y, h2, t _ _ h3, t _ _ h4, VR.tst t _ _ h5⟩) hD (by rw [hl]; exact sz_le (by omega)) (fun H1 s1 => s1.seq ha) ?_ ?_
    · rintro i x H2 H3 Q2 hi s2 ⟨rfl, hx⟩ q
      have hi2 : i < es.length := by rw [← hl]; exact hi
      obtain ⟨t, z, y, rfl, h1, h2, h3, h4⟩ := hp i es[i] x (List.getElem?_eq_getElem hi2) hx
      refine ⟨t, _, rfl, s2.tup h1, rfl, _, _, rfl, _, _, rfl, rfl, rfl, ?_⟩
      refine ⟨_, rfl, z, rfl, h2, fun H4 p s4 h5 => ⟨_, rfl, two_le, fun r hr => ?_⟩⟩
      refine q _ _ (s4.trans (Same.new hr)) ⟨es[i], List.getElem?_eq_getElem hi2, r, p, y, rfl, .of upd_same, .of ?_, ?_⟩
      · rw [upd_ne (ne_of_none h5 hr), h5, h3]
      · exact ((s2.trans s4).trans (Same.new hr)).vr h4
    · intro H2 ys s2 hy hl2 hR
      refine ⟨D, ys, rfl, .inl ⟨.of hy, fun p hp => ⟨two_le, fun r hr => ?_⟩⟩⟩
      have s3 : Same H2 _ := (Same.new (o := .tup ys) hp).trans (Same.new (o := .tup [.int 8, .ref p]) hr)
      refine k _ _ (s2.trans s3) ?_
      unfold VR
      refine ⟨r, p, ys, rfl, .of upd_same, .of (by rw [upd_ne (ne_of_none upd_same hr), upd_same]), VRe.mk (by rw [hl2, hl]) fun i e x h1 h2 => ?_⟩
      obtain ⟨e', q1, t, n, y, q2, q3, q4, q5⟩ := hR i x h2
      rw [h1] at q1
      cases q1
      exact ⟨t, n, y, q2, s3.tup q3, s3.tup q4, s3.vr q5⟩
theorem low_snoc : ∀ (k n : Nat), RWire.low (k + 1) n = RWire.low k n ++ [UInt8.ofNat (n / 256 ^ k)]
  | 0, n => by
    show [UInt8.ofNat n] = [UInt8.ofNat (n / 256 ^ 0)]
    rw [Nat.pow_zero, Nat.div_one]
  | k + 1, n => by
    show UInt8.ofNat n :: RWire.low (k + 1) (n / 256) = UInt8.ofNat n :: RWire.low k (n / 256) ++ [UInt8.ofNat (n / 256 ^ (k + 1))]
    rw [low_snoc k, Nat.div_div_eq_div_mul, ← Nat.pow_succ']; rfl
theorem low_length : ∀ (k n : Nat), (RWire.low k n).length = k
  | 0, n => rfl
  | k + 1, n => by show (RWire.low k (n / 256)).length + 1 = _; rw [low_length k]
theorem ok_low_first (T : Txt K mg A) : Ok P w K mg base CX0 1 A.f_low_first p_low_first spLow := by
  refine ok_of T.F_low_first sc_low_first (fun vs H Q E h => ?_) (fun cdv A' outer s H vs Q E hr h => ?_)
  · obtain ⟨n, m, rfl, _⟩ := h
    rfl
  · obtain ⟨n, m, rfl, hm, k⟩ := h
    refine ⟨_, pss_cons (ps_set (i := 2) sc_low_first.nd rfl (Or.inl rfl) (pe_lst pa_nil))
      (pss_cons (ps_for PassesOwn.never rfl (pi_range1 rfl T.b_range (pa_cons (pv 1) pa_nil)) (pg_name (i := 3) sc_low_first.nd rfl (Or.inl rfl))
        (pss_cons (ps_expr (pe_append (pv 2) (pe_op op_mod (pv 0) pe_int))) (pss_one (ps_set (i := 0) sc_low_first.nd rfl (Or.inl rfl) (pe_op op_fdiv (pv 0) pe_int)))))
      (pss_one (ps_ret (pv 2)))), ?_⟩
    refine ⟨Nat.zero_le _, fun p hp => ?_⟩
    refine ⟨_, rfl, m, rfl, by omega, by omega, for_range (n := m) (lo := 0) (fun i σ H' => ∃ v, σ = [some (.int ((n / 256 ^ i : Nat) : Int)), some (.int m), some (.ref p), v] ∧ Same H H' ∧ H' p = some (.lst (oV (RWire.low i n)))) ⟨none, by rw [Nat.pow_zero, Nat.div_one]; rfl, Same.new hp, upd_same⟩ ?_ ?_⟩
    · rintro i σ H' hi ⟨v, rfl, s1, h1⟩
      refine ⟨_, rfl, .inl ⟨rfl, _, SqL.of h1⟩, _, rfl, _, _, rfl, rfl, (by show (0 : Int) < 256; decide), p, _, _, rfl, rfl, h1, (by rw [oV_length, low_length]; exact sz_lt' (by omega)), ?_⟩
      refine ⟨_, rfl, _, _, rfl, rfl, ⟨by decide, by decide⟩, ?_⟩
      refine ⟨some (.int (0 + (i : Int))), ?_, s1.mut hp, ?_⟩
      · have e : ((n / 256 ^ i : Nat) : Int) / 256 = ((n / 256 ^ (i + 1) : Nat) : Int) := by
          rw [Nat.pow_succ, ← Nat.div_div_eq_div_mul]
          omega
        rw [← e]; rfl
      · rw [upd_same, low_snoc, oV_app]
        have e : ((n / 256 ^ i : Nat) : Int) % 256 = ((UInt8.ofNat (n / 256 ^ i)).toNat : Nat) := by
          rw [UInt8.toNat_ofNat']
          omega
        show some (HO.lst (oV (RWire.low i n) ++ [V.int (((n / 256 ^ i : Nat) : Int) % 256)])) = _
        rw [e]; rfl
    · rintro σ H' ⟨v, rfl, s1, h1⟩
      exact ⟨_, rfl, k _ p s1 hp h1⟩
end
end Rl
end
section
set_option Elab.async false
set_option linter.all false
set_option maxRecDepth 100000
set_option maxHeartbeats 4000000
/-! RlOct: octets_of. -/
namespace Rl
open PySem PySem.Spec PyProof.Rows L2

theorem if_no {c : Bool} {A B : Prop} (hc : c = false) (h : B) : if c = true then A else B := by
  rw [hc, if_neg Bool.false_ne_true]
  exact h
theorem if_yes {c : Bool} {A B : Prop} (hc : c = true) (h : A) : if c = true then A else B := by
  rw [if_pos hc]
  exact h

theorem many_snoc : ∀ {l : List RWire.Value} {i : Nat} {v : RWire.Value}, l[i]? = some v → RWire.writeMany (l.take (i + 1)) = RWire.writeMany (l.take i) ++ RWire.write v
  | [], i, v, h => by simp at h
  | a :: r, 0, v, h => by
    cases h
    show RWire.writeMany [a] = RWire.writeMany [] ++ RWire.write a
    simp [RWire.writeMany]
  | a :: r, i + 1, v, h => by
    have ih := many_snoc (l := r) (i := i) (v := v) h
    show RWire.writeMany (a :: r.take (i + 1)) = RWire.writeMany (a :: r.take i) ++ RWire.write v
    simp only [RWire.writeMany]
    rw [ih, List.append_assoc]
theorem many_le : ∀ {l : List RWire.Value} {i : Nat}, (RWire.writeMany (l.take i)).length ≤ (RWire.writeMany l).length
  | [], i => by simp
  | a :: r, 0 => by simp [RWire.writeMany]
  | a :: r, i + 1 => by
    have ih := many_le (l := r) (i := i)
    show (RWire.writeMany (a :: r.take i)).length ≤ (RWire.writeMany (a :: r)).length
    simp only [RWire.writeMany, List.length_append]
    omega
theorem many_get : ∀ {l : List RWire.Value} {i : Nat} {v : RWire.Value}, l[i]? = some v → RWire.depth v ≤ RWire.depthMany l ∧ (RWire.fineMany l = true → RWire.fine v = true)
  | [], i, v, h => by simp at h
  | a :: r, 0, v, h => by
    cases h
    refine ⟨Nat.le_max_left _ _, fun q => ?_⟩
    simp only [RWire.fineMany, Bool.and_eq_true] at q
    exact q.1
  | a :: r, i + 1, v, h => by
    obtain ⟨h1, h2⟩ := many_get (l := r) (i := i) (v := v) h
    refine ⟨Nat.le_trans h1 (Nat.le_max_right _ _), fun q => ?_⟩
    simp only [RWire.fineMany, Bool.and_eq_true] at q
    exact h2 q.2
theorem ents_snoc : ∀ {l : List (RWire.Text × RWire.Value)} {i : Nat} {e : RWire.Text × RWire.Value}, l[i]? = some e → RWire.writeEntries (l.take (i + 1)) = RWire.writeEntries (l.take i) ++ (RWire.writeText e.1 ++ RWire.write e.2)
  | [], i, v, h => by simp at h
  | a :: r, 0, v, h => by
    cases h
    show RWire.writeEntries [a] = RWire.writeEntries [] ++ _
    simp [RWire.writeEntries]
  | a :: r, i + 1, v, h => by
    have ih := ents_snoc (l := r) (i := i) (e := v) h
    show RWire.writeEntries (a :: r.take (i + 1)) = RWire.writeEntries (a :: r.take i) ++ _
    simp only [RWire.writeEntries]
    rw [ih]
    simp [List.append_assoc]
theorem ents_le : ∀ {l : List (RWire.Text × RWire.Value)} {i : Nat}, (RWire.writeEntries (l.take i)).length ≤ (RWire.writeEntries l).length
  | [], i => by simp
  | a :: r, 0 => by simp [RWire.writeEntries]
  | a :: r, i + 1 => by
    have ih := ents_le (l := r) (i := i)
    show (RWire.writeEntries (a :: r.take i)).length ≤ (RWire.writeEntries (a :: r)).length
    simp only [RWire.writeEntries, List.length_append]
    omega
theorem ents_get : ∀ {l : List (RWire.Text × RWire.Value)} {i : Nat} {e : RWire.Text × RWire.Value}, l[i]? = some e → RWire.depth e.2 ≤ RWire.depthEntries l ∧ (RWire.fineEntries l = true → RWire.fine e.2 = true)
  | [], i, v, h => by simp at h
  | a :: r, 0, v, h => by
    cases h
    refine ⟨Nat.le_max_left _ _, fun q => ?_⟩
    simp only [RWire.fineEntries, Bool.and_eq_true] at q
    exact q.2.1
  | a :: r, i + 1, v, h => by
    obtain ⟨h1, h2⟩ := ents_get (l := r) (i := i) (e := v) h
    refine ⟨Nat.le_trans h1 (Nat.le_max_right _ _), fun q => ?_⟩
    simp only [RWire.fineEntries, Bool.and_eq_true] at q
    exact h2 q.2.2

def spOct (K : PySem.W.Frag) (n : Nat) : Sp := fun vs H Q _ => ∃ (x : V) (v : RWire.Value), vs = [x] ∧ VR K H v x ∧ RWire.depth v ≤ n ∧ RWire.fine v = true ∧ (RWire.write v).length ≤ 1000000 ∧
  ∀ H' p, Same H H' → H p = none → H' p = some (.lst (oV (RWire.write v))) → Q (.ref p) H'

/-- the word for an integer -/
theorem int_word {i : Int} (h : i.natAbs ≤ 9007199254740991) : (if 0 ≤ i then i else i + 18446744073709551616) = (((i % RWire.wordMost).toNat : Nat) : Int) := by
  have e : RWire.wordMost = 18446744073709551616 := rfl
  rw [e]
  split <;> omega

section
variable {P : Program} {w : World} {K : PySem.W.Frag} {mg : Str → Option Value} {base : Heap} {A : Adr}
theorem ok_octets_of (T : Txt K mg A) : ∀ n, Ok P w K mg base CX0 (n + 2) A.f_octets_of p_octets_of (spOct K n) := by
  have G := ok_low_first (P := P) (w := w) (base := base) T
  intro n
  induction n with
  | zero =>
    refine ok_of T.F_octets_of sc_octets_of (fun vs H Q E h => ?_) (fun cdv A' outer s H vs Q E hr h => ?_)
    · obtain ⟨x, v, rfl, _⟩ := h
      rfl
    · obtain ⟨x, v, rfl, _, hd, _⟩ := h
      exfalso
      cases v <;> simp [RWire.depth] at hd
  | succ n ih =>
    refine ok_of T.F_octets_of sc_octets_of (fun vs H Q E h => ?_) (fun cdv A' outer s H vs Q E hr h => ?_)
    · obtain ⟨x, v, rfl, _⟩ := h
      rfl
    · obtain ⟨x, v, rfl, hv, hd, hf, hl, k⟩ := h
      obtain ⟨uI, hI, rI⟩ := T.v_INTEGER
      obtain ⟨uT, hT, rT⟩ := T.v_TEXT
      obtain ⟨uW, hW, rW⟩ := T.v_WORD
      obtain ⟨uR, hR, rR⟩ := T.v_RECORD
      have hr1 : Room 1 _ := hr.mono (by omega)
      refine ⟨_, pss_cons (ps_set (i := 1) sc_octets_of.nd rfl (Or.inl rfl) (pe_ix ix_tup (pv 0) pe_int (fun _ _ => rfl)))
        (pss_cons (ps_if (pt_cmpR op_eq (pv 1) (pe_glob rfl hI rI) (nomark _)) (pss_one (ps_ret (pe_op op_cat (pe_lst (pa_cons (pv 1) pa_nil)) (fn_call G T.g_low_first hr1 (pa_cons
          (pe_ifExp (pt_cmpR op_ge (pe_ix ix_tup (pv 0) pe_int (fun _ _ => rfl)) pe_int (nomark _)) (pe_ix ix_tup (pv 0) pe_int (fun _ _ => rfl)) (pe_op op_add (pe_ix ix_tup (pv 0) pe_int (fun _ _ => rfl)) (pe_glob rfl hW rW))) (pa_cons pe_int pa_nil)))))) pss_nil)
        (pss_cons (ps_if (pt_cmpR op_eq (pv 1) (pe_glob rfl hT rT) (nomark _)) (pss_one (ps_ret (pe_op op_cat (pe_op op_cat (pe_lst (pa_cons (pv 1) pa_nil)) (fn_call G T.g_low_first hr1 (pa_cons (pe_lenOf T.b_len (pe_ix ix_tup (pv 0) pe_int (fun _ _ => rfl))) (pa_cons pe_int pa_nil)))) (pe_lstOf T.b_list (pe_ix ix_tup (pv 0) pe_int (fun _ _ => rfl)))))) pss_nil)
        (pss_cons (ps_if (pt_cmpR op_lt (pv 1) (pe_glob rfl hI rI) (nomark _)) (pss_one (ps_ret (pe_lst (pa_cons (pv 1) pa_nil)))) pss_nil)
        (pss_cons (ps_set (i := 2) sc_octets_of.nd rfl (Or.inl rfl) (pe_op op_cat (pe_lst (pa_cons (pv 1) pa_nil)) (fn_call G T.g_low_first hr1 (pa_cons (pe_lenOf T.b_len (pe_ix ix_tup (pv 0) pe_int (fun _ _ => rfl))) (pa_cons pe_int pa_nil)))))
        (pss_cons (ps_for PassesOwn.never rfl (pi_tup (pe_ix ix_tup (pv 0) pe_int (fun _ _ => rfl))) (pg_name (i := 3) sc_octets_of.nd rfl (Or.inl rfl))
          (pss_one (ps_if (pt_cmpR op_eq (pv 1) (pe_glob rfl hR rR) (nomark _))
            (pss_one (ps_expr (pe_extend (pv 2) (pe_op op_cat (pe_op op_cat (fn_call G T.g_low_first hr1 (pa_cons (pe_lenOf T.b_len (pe_ix ix_tup (pv 3) pe_int (fun _ _ => rfl))) (pa_cons pe_int pa_nil))) (pe_lstOf T.b_list (pe_ix ix_tup (pv 3) pe_int (fun _ _ => rfl))))
              (fn_call ih T.g_octets_of hr (pa_cons (pe_ix ix_tup (pv 3) pe_int (fun _ _ => rfl)) pa_nil) (Nat.le_refl _))))))
            (pss_one (ps_expr (pe_extend (pv 2) (fn_call ih T.g_octets_of hr (pa_cons (pv 3) pa_nil) (Nat.le_refl _))))))))
        (pss_one (ps_ret (pv 2)))))))), ?_⟩
      by_cases hsc : ∃ (b : Int) (p : Addr), x = .ref p ∧ SqT K H p [.int b] ∧ (b = 0 ∨ b = 1 ∨ b = 2 ∨ b = 3) ∧ RWire.write v = [UInt8.ofNat b.toNat]
      · obtain ⟨b, p, rfl, hp, hb, hw⟩ := hsc
        refine ⟨_, rfl, p, _, 0, _, rfl, rfl, hp, rfl, ?_⟩
        refine ⟨_, rfl, rfl, _, rfl, ?_⟩
        refine if_no (by rcases hb with rfl | rfl | rfl | rfl <;> rfl) ?_
        refine ⟨_, rfl, rfl, _, rfl, ?_⟩
        refine if_no (by rcases hb with rfl | rfl | rfl | rfl <;> rfl) ?_
        refine ⟨_, rfl, _, _, rfl, rfl, _, rfl, ?_⟩
        refine if_yes (by rcases hb with rfl | rfl | rfl | rfl <;> rfl) ?_
        refine ⟨_, rfl, (by show 1 ≤ sizeLine; decide), fun q hq => ?_⟩
        refine k _ q (Same.new hq) hq ?_
        rw [upd_same, hw]
        rcases hb with rfl | rfl | rfl | rfl <;> rfl
      cases v with
      | nothing =>
        unfold VR at hv
        obtain ⟨p, e, hp⟩ := hv
        exact (hsc ⟨0, p, e, hp, .inl rfl, rfl⟩).elim
      | null =>
        unfold VR at hv
        obtain ⟨p, e, hp⟩ := hv
        exact (hsc ⟨1, p, e, hp, .inr (.inl rfl), rfl⟩).elim
      | bool b =>
        unfold VR at hv
        obtain ⟨p, e, hp⟩ := hv
        cases b with
        | true => exact (hsc ⟨3, p, e, hp, .inr (.inr (.inr rfl)), rfl⟩).elim
        | false => exact (hsc ⟨2, p, e, hp, .inr (.inr (.inl rfl)), rfl⟩).elim
      | big i => unfold VR at hv; exact hv.elim
      | octets i => unfold VR at hv; exact hv.elim
      | wide i => unfold VR at hv; exact hv.elim
      | int i =>
        unfold VR at hv
        obtain ⟨p, rfl, hp⟩ := hv
        have hi : i.natAbs ≤ 9007199254740991 := by
          have := hf
          simp only [RWire.fine] at this
          exact Nat.ble_eq.mp this
        refine ⟨_, rfl, p, _, 0, _, rfl, rfl, hp, rfl, ?_⟩
        refine ⟨_, rfl, rfl, _, rfl, ?_⟩
        refine if_yes rfl ?_
        refine ⟨_, rfl, (by show 1 ≤ sizeLine; decide), fun q hq => ?_⟩
        have s1 := Same.new (o := .lst [.int 4]) hq
        refine ⟨_, rfl, p, _, 1, _, rfl, rfl, s1.tup hp, rfl, _, _, rfl, rfl, _, rfl, ?_⟩
        have e := int_word hi
        refine ite2 (fun c => ?_) (fun c => ?_)
        · rw [if_pos (of_decide_eq_true c)] at e
          refine ⟨_, rfl, p, _, 1, _, rfl, rfl, s1.tup hp, rfl, ?_⟩
          refine ⟨(i % RWire.wordMost).toNat, 8, by rw [← e]; rfl, by decide, fun H1 r s2 hr2 h2 => ?_⟩
          have hq1 := s2 _ _ (upd_same (H := H) (a := q) (o := .lst [.int 4]))
          refine ⟨q, r, _, _, rfl, rfl, hq1, h2, (by rw [oV_length, low_length]; decide), fun t ht => ?_⟩
          exact k _ t ((s1.trans s2).trans (Same.new ht)) ((s1.trans s2).free ht) upd_same
        · rw [if_neg (fun z => c (decide_eq_true z))] at e
          refine ⟨_, rfl, p, _, 1, _, rfl, rfl, s1.tup hp, rfl, _, _, rfl, rfl, ?_⟩
          refine ⟨(i % RWire.wordMost).toNat, 8, by rw [← e]; rfl, by decide, fun H1 r s2 hr2 h2 => ?_⟩
          have hq1 := s2 _ _ (upd_same (H := H) (a := q) (o := .lst [.int 4]))
          refine ⟨q, r, _, _, rfl, rfl, hq1, h2, (by rw [oV_length, low_length]; decide), fun t ht => ?_⟩
          exact k _ t ((s1.trans s2).trans (Same.new ht)) ((s1.trans s2).free ht) upd_same
      | text u =>
        unfold VR at hv
        obtain ⟨p, q, rfl, hp, hq⟩ := hv
        have hlu : (RWire.write (.text u)).length = u.length + 5 := by
          simp only [RWire.write, RWire.writeText, RWire.writeCount, List.length_cons, List.length_append, low_length]
          omega
        refine ⟨_, rfl, p, _, 0, _, rfl, rfl, hp, rfl, ?_⟩
        refine ⟨_, rfl, rfl, _, rfl, ?_⟩
        refine if_no rfl ?_
        refine ⟨_, rfl, rfl, _, rfl, ?_⟩
        refine if_yes rfl ?_
        refine ⟨_, rfl, (by show 1 ≤ sizeLine; decide), fun a ha => ?_⟩
        have s1 := Same.new (o := .lst [.int 6]) ha
        refine ⟨_, rfl, p, _, 1, _, rfl, rfl, s1.tup hp, rfl, q, _, rfl, .inr (s1.tup hq), ?_⟩
        refine ⟨u.length, 4, by rw [oV_length]; rfl, by decide, fun H1 r s2 hr2 h2 => ?_⟩
        have hq1 := s2 _ _ (upd_same (H := H) (a := a) (o := .lst [.int 6]))
        refine ⟨a, r, _, _, rfl, rfl, hq1, h2, (by rw [oV_length, low_length]; decide), fun t ht => ?_⟩
        have s3 := (s1.trans s2).trans (Same.new (o := .lst ([.int 6] ++ oV (RWire.low 4 u.length))) ht)
        refine ⟨_, rfl, p, _, 1, _, rfl, rfl, s3.tup hp, rfl, q, _, rfl, .inr (s3.tup hq), fun b hb => ?_⟩
        refine ⟨t, b, _, _, rfl, rfl, (by rw [upd_ne (ne_of_none upd_same hb), upd_same]), upd_same, ?_, fun d hd' => ?_⟩
        · have := hl
          rw [List.length_append, oV_length, oV_length, low_length]
          exact sz_le (by show 1 + 4 + u.length ≤ _; omega)
        · refine k _ d ((s3.trans (Same.new hb)).trans (Same.new hd')) (s3.free (Same.free (Same.new hb) hd')) ?_
          rw [upd_same]
          show some (HO.lst ([V.int 6] ++ oV (RWire.low 4 u.length) ++ oV u)) = some (HO.lst (oV (6 :: (RWire.low 4 u.length ++ u))))
          have e : [V.int 6] ++ oV (RWire.low 4 u.length) ++ oV u = oV (6 :: (RWire.low 4 u.length ++ u)) := by
            show _ = V.int 6 :: oV (RWire.low 4 u.length ++ u)
            rw [oV_app]; rfl
          rw [e]
      | list l =>
        unfold VR at hv
        obtain ⟨p, q, xs, rfl, hp, hq, hx⟩ := hv
        have hlen : xs.length = l.length := hx.length
        simp only [RWire.depth] at hd
        simp only [RWire.fine, Bool.and_eq_true] at hf
        have hlw : (RWire.write (.list l)).length = 5 + (RWire.writeMany l).length := by
          simp only [RWire.write, RWire.writeCount, List.length_cons, List.length_append, low_length]
          omega
        refine ⟨_, rfl, p, _, 0, _, rfl, rfl, hp, rfl, ?_⟩
        refine ⟨_, rfl, rfl, _, rfl, ?_⟩
        refine if_no rfl ?_
        refine ⟨_, rfl, rfl, _, rfl, ?_⟩
        refine if_no rfl ?_
        refine ⟨_, rfl, _, _, rfl, rfl, _, rfl, ?_⟩
        refine if_no rfl ?_
        refine ⟨_, rfl, (by show 1 ≤ sizeLine; decide), fun a ha => ?_⟩
        have s1 := Same.new (o := .lst [.int 7]) ha
        refine ⟨_, rfl, p, _, 1, _, rfl, rfl, s1.tup hp, rfl, q, _, rfl, .inr (s1.tup hq), ?_⟩
        refine ⟨l.length, 4, by rw [hlen]; rfl, by decide, fun H1 r s2 hr2 h2 => ?_⟩
        have hq1 := s2 _ _ (upd_same (H := H) (a := a) (o := .lst [.int 7]))
        refine ⟨a, r, _, _, rfl, rfl, hq1, h2, (by rw [oV_length, low_length]; decide), fun t ht => ?_⟩
        have s3 := (s1.trans s2).trans (Same.new (o := .lst ([.int 7] ++ oV (RWire.low 4 l.length))) ht)
        have ht0 : H t = none := (s1.trans s2).free ht
        refine ⟨_, rfl, p, _, 1, _, rfl, rfl, s3.tup hp, rfl, q, rfl, ⟨_, s3.tup hq⟩, for_tup (xs := xs) (fun i σ H' => ∃ v, σ = [some (.ref p), some (.int 7), some (.ref t), v] ∧ Same H H' ∧ H' t = some (.lst ([.int 7] ++ oV (RWire.low 4 l.length ++ RWire.writeMany (l.take i)))))
          ⟨none, rfl, s3, by rw [upd_same]; simp [RWire.writeMany]⟩ (fun i σ H' _ ⟨_, _, s4, _⟩ => s4.tup hq) ?_ ?_⟩
        · rintro i y σ H' hi ⟨v', rfl, s4, h4⟩
          have hi2 : i < l.length := by rw [← hlen]; exact (List.getElem?_eq_some_iff.mp hi).1
          have hg := List.getElem?_eq_getElem hi2
          obtain ⟨y', hy, ry⟩ := hx.get hg
          rw [hi] at hy
          cases hy
          obtain ⟨g1, g2⟩ := many_get hg
          have g3 := many_snoc hg
          have g4 : (RWire.writeMany (l.take (i + 1))).length ≤ (RWire.writeMany l).length := many_le
          rw [g3, List.length_append] at g4
          refine ⟨_, rfl, rfl, _, rfl, ?_⟩
          refine if_no rfl ?_
          refine ⟨_, rfl, .inl ⟨rfl, _, SqL.of h4⟩, _, rfl, y, l[i], rfl, s4.vr ry, by omega, g2 hf.2, by omega, fun H2 b s5 hb5 h5 => ?_⟩
          refine ⟨t, b, _, _, rfl, rfl, s5 _ _ h4, h5, ?_, ?_⟩
          · rw [List.length_append, oV_length, oV_length, List.length_append, low_length]
            exact sz_le (by show 1 + (4 + _) + _ ≤ _; omega)
          · refine ⟨_, rfl, (s4.trans s5).mut ht0, ?_⟩
            rw [upd_same, g3, List.append_assoc, ← oV_app, List.append_assoc]
        · rintro σ H' ⟨v', rfl, s4, h4⟩
          refine ⟨_, rfl, k _ t s4 ht0 ?_⟩
          rw [h4, hlen, List.take_length]; rfl
      | record l =>
        unfold VR at hv
        obtain ⟨p, q, xs, rfl, hp, hq, hx⟩ := hv
        have hlen : xs.length = l.length := hx.length
        simp only [RWire.depth] at hd
        simp only [RWire.fine, Bool.and_eq_true] at hf
        have hlw : (RWire.write (.record l)).length = 5 + (RWire.writeEntries l).length := by
          simp only [RWire.write, RWire.writeCount, List.length_cons, List.length_append, low_length]
          omega
        refine ⟨_, rfl, p, _, 0, _, rfl, rfl, hp, rfl, ?_⟩
        refine ⟨_, rfl, rfl, _, rfl, ?_⟩
        refine if_no rfl ?_
        refine ⟨_, rfl, rfl, _, rfl, ?_⟩
        refine if_no rfl ?_
        refine ⟨_, rfl, _, _, rfl, rfl, _, rfl, ?_⟩
        refine if_no rfl ?_
        refine ⟨_, rfl, (by show 1 ≤ sizeLine; decide), fun a ha => ?_⟩
        have s1 := Same.new (o := .lst [.int 8]) ha
        refine ⟨_, rfl, p, _, 1, _, rfl, rfl, s1.tup hp, rfl, q, _, rfl, .inr (s1.tup hq), ?_⟩
        refine ⟨l.length, 4, by rw [hlen]; rfl, by decide, fun H1 r s2 hr2 h2 => ?_⟩
        have hq1 := s2 _ _ (upd_same (H := H) (a := a) (o := .lst [.int 8]))
        refine ⟨a, r, _, _, rfl, rfl, hq1, h2, (by rw [oV_length, low_length]; decide), fun t ht => ?_⟩
        have s3 := (s1.trans s2).trans (Same.new (o := .lst ([.int 8] ++ oV (RWire.low 4 l.length))) ht)
        have ht0 : H t = none := (s1.trans s2).free ht
        refine ⟨_, rfl, p, _, 1, _, rfl, rfl, s3.tup hp, rfl, q, rfl, ⟨_, s3.tup hq⟩, for_tup (xs := xs) (fun i σ H' => ∃ v, σ = [some (.ref p), some (.int 8), some (.ref t), v] ∧ Same H H' ∧ H' t = some (.lst ([.int 8] ++ oV (RWire.low 4 l.length ++ RWire.writeEntries (l.take i)))))
          ⟨none, rfl, s3, by rw [upd_same]; simp [RWire.writeEntries]⟩ (fun i σ H' _ ⟨_, _, s4, _⟩ => s4.tup hq) ?_ ?_⟩
        · rintro i y σ H' hi ⟨v', rfl, s4, h4⟩
          have hi2 : i < l.length := by rw [← hlen]; exact (List.getElem?_eq_some_iff.mp hi).1
          have hg := List.getElem?_eq_getElem hi2
          obtain ⟨tt, nn, y', hy, r1, r2, r3⟩ := hx.get hg
          rw [hi] at hy
          cases hy
          obtain ⟨g1, g2⟩ := ents_get hg
          have g3 := ents_snoc hg
          have g4 : (RWire.writeEntries (l.take (i + 1))).length ≤ (RWire.writeEntries l).length := ents_le
          have gt : (RWire.writeText l[i].1).length = 4 + l[i].1.length := by simp only [RWire.writeText, RWire.writeCount, List.length_append, low_length]
          rw [g3, List.length_append, List.length_append, gt] at g4
          refine ⟨_, rfl, rfl, _, rfl, ?_⟩
          refine if_yes rfl ?_
          refine ⟨_, rfl, .inl ⟨rfl, _, SqL.of h4⟩, _, rfl, tt, _, 0, _, rfl, rfl, s4.tup r1, rfl, nn, _, rfl, .inr (s4.tup r2), ?_⟩
          refine ⟨l[i].1.length, 4, by rw [oV_length]; rfl, by decide, fun H2 b s5 hb5 h5 => ?_⟩
          have s6 := s4.trans s5
          refine ⟨_, rfl, tt, _, 0, _, rfl, rfl, s6.tup r1, rfl, nn, _, rfl, .inr (s6.tup r2), fun c hc => ?_⟩
          refine ⟨b, c, _, _, rfl, rfl, (by rw [upd_ne (ne_of_none h5 hc)]; exact h5), upd_same, (by rw [oV_length, oV_length, low_length]; exact sz_le (by omega)), fun d hd' => ?_⟩
          have s7 : Same H2 _ := (Same.new (o := .lst (oV l[i].1)) hc).trans (Same.new (o := .lst (oV (RWire.low 4 l[i].1.length) ++ oV l[i].1)) hd')
          refine ⟨_, rfl, tt, _, 1, _, rfl, rfl, (s6.trans s7).tup r1, rfl, ?_⟩
          refine ⟨y', l[i].2, rfl, (s6.trans s7).vr r3, by omega, g2 hf.2.1, by omega, fun H3 e s8 he8 h8 => ?_⟩
          refine ⟨d, e, _, _, rfl, rfl, s8 _ _ upd_same, h8, (by rw [List.length_append, oV_length, oV_length, oV_length, low_length]; exact sz_le (by omega)), fun f hf' => ?_⟩
          have s9 := (s5.trans s7).trans (s8.trans (Same.new (o := .lst (oV (RWire.low 4 l[i].1.length) ++ oV l[i].1 ++ oV (RWire.write l[i].2))) hf'))
          refine ⟨t, f, _, _, rfl, rfl, s9 _ _ h4, upd_same, ?_, ?_⟩
          · rw [List.length_append, List.length_append, List.length_append, oV_length, oV_length, oV_length, oV_length, List.length_append, low_length, low_length]
            exact sz_le (by show 1 + (4 + _) + _ ≤ _; omega)
          · refine ⟨_, rfl, (s4.trans s9).mut ht0, ?_⟩
            rw [upd_same, g3]
            simp only [oV_app, RWire.writeText, RWire.writeCount, List.append_assoc]
        · rintro σ H' ⟨v', rfl, s4, h4⟩
          refine ⟨_, rfl, k _ t s4 ht0 ?_⟩
          rw [h4, hlen, List.take_length]; rfl
end
end Rl
end
section
set_option Elab.async false
set_option linter.all false
set_option maxRecDepth 100000
set_option maxHeartbeats 4000000
/-! RlReq: a request is read. -/
namespace Rl
open PySem PySem.Spec PyProof.Rows L2

/-! ### attributes by their places -/
theorem fld_get {f : Str} {v : V} : ∀ {ns : List Str} {vs : List V} {i : Nat}, ns.Nodup → ns[i]? = some f → vs[i]? = some v → (ns.zip vs).lookup f = some v
  | [], vs, i, _, h, _ => by simp at h
  | n :: ns, [], i, _, _, h => by simp at h
  | n :: ns, x :: vs, 0, _, h1, h2 => by
    cases h1
    cases h2
    show List.lookup f ((f, v) :: ns.zip vs) = _
    simp [List.lookup]
  | n :: ns, x :: vs, i + 1, hn, h1, h2 => by
    obtain ⟨a, b⟩ := List.nodup_cons.mp hn
    have hne : (f == n) = false := by
      have : f ≠ n := fun e => a (e ▸ List.mem_of_getElem? (i := i) h1)
      simpa using this
    show List.lookup f ((n, x) :: ns.zip vs) = _
    simp only [List.lookup, hne]
    exact fld_get b h1 h2
theorem fld_put {f : Str} {v : V} : ∀ {ns : List Str} {vs : List V} {i : Nat}, ns.Nodup → ns[i]? = some f → vs.length = ns.length → putF f v (ns.zip vs) = ns.zip (vs.set i v)
  | [], vs, i, _, h, _ => by simp at h
  | n :: ns, [], i, _, _, h => by simp at h
  | n :: ns, x :: vs, 0, _, h1, _ => by
    cases h1
    show (if f = f then (f, v) :: ns.zip vs else _) = _
    rw [if_pos rfl]; rfl
  | n :: ns, x :: vs, i + 1, hn, h1, hl => by
    obtain ⟨a, b⟩ := List.nodup_cons.mp hn
    have hne : ¬ n = f := fun e => a (e ▸ List.mem_of_getElem? (i := i) h1)
    show (if n = f then _ else (n, x) :: putF f v (ns.zip vs)) = _
    rw [if_neg hne, fld_put b h1 (by simpa using hl)]; rfl
theorem fld_no {f : Str} : ∀ {ns : List Str} {vs : List V}, f ∉ ns → (ns.zip vs).lookup f = none
  | [], vs, _ => rfl
  | n :: ns, [], _ => rfl
  | n :: ns, x :: vs, h => by
    have hne : (f == n) = false := by
      have : f ≠ n := fun e => h (by rw [e]; exact List.mem_cons_self)
      simpa using this
    show List.lookup f ((n, x) :: ns.zip vs) = _
    simp only [List.lookup, hne]
    exact fld_no fun z => h (List.mem_cons_of_mem _ z)
theorem few2 {n : Nat} (h : n < 900) : n < 1000 := by omega

/-- all but one address as it was -/
def FrB (a : Addr) (H H' : Hp) : Prop := ∀ b o, H b = some o → b ≠ a → H' b = some o
theorem FrB.refl (a : Addr) (H : Hp) : FrB a H H := fun _ _ h _ => h
theorem FrB.trans {a : Addr} {H H1 H2 : Hp} (x : FrB a H H1) (y : FrB a H1 H2) : FrB a H H2 := fun b o h n => y b o (x b o h n) n
theorem FrB.same {a : Addr} {H H' : Hp} (s : Same H H') : FrB a H H' := fun b o h _ => s b o h
theorem FrB.wr {a : Addr} {H : Hp} {o : HO} : FrB a H (upd H a o) := fun b u h n => by rw [upd_ne n]; exact h
theorem FrB.free {a b : Addr} {H H' : Hp} (x : FrB a H H') (h : H' b = none) (n : b ≠ a) : H b = none := by
  cases e : H b with
  | none => rfl
  | some o =>
    rw [x b o e n] at h; cases h
theorem FrB.tst {K : PySem.W.Frag} {a : Addr} {H H' : Hp} {C dx : Addr} {fs : List (Str × V)} (x : FrB a H H') (h : H a = some (.ins C dx fs)) : TSt K H H' := fun b xs q => by
  rcases q with (q | ⟨ob, q⟩) | q
  · exact .inl (.inl (x _ _ q fun z => by rw [z, h] at q; cases q))
  · exact .inl (.inr ⟨ob, x _ _ q fun z => by rw [z, h] at q; cases q⟩)
  · exact .inr q
theorem FrB.seq {K : PySem.W.Frag} {a b : Addr} {H H' : Hp} {C dx : Addr} {fs : List (Str × V)} {xs : List V} (x : FrB a H H') (h : H a = some (.ins C dx fs)) (q : SqL K H b xs) : SqL K H' b xs := by
  rcases q with (q | ⟨ob, q⟩) | q
  · exact .inl (.inl (x _ _ q fun z => by rw [z, h] at q; cases q))
  · exact .inl (.inr ⟨ob, x _ _ q fun z => by rw [z, h] at q; cases q⟩)
  · exact .inr q

/-! ### the request's object -/
def nsR : List Str := ["octets", "at"]
theorem ndR : nsR.Nodup := by decide +kernel
def reqF (L : Addr) (i : Int) : List (Str × V) := nsR.zip [.ref L, .int i]
theorem reqF_oct (L : Addr) (i : Int) : (reqF L i).lookup ("octets" : Str) = some (.ref L) := fld_get ndR (i := 0) rfl rfl
theorem reqF_at (L : Addr) (i : Int) : (reqF L i).lookup ("at" : Str) = some (.int i) := fld_get ndR (i := 1) rfl rfl
theorem reqF_put (L : Addr) (i j : Int) : putF ("at" : Str) (.int j) (reqF L i) = reqF L j := fld_put ndR (i := 1) rfl rfl
theorem reqF_no {m : Str} (h : m ∉ nsR) (L : Addr) (i : Int) : (reqF L i).lookup m = none := fld_no h
theorem reqF_new (L : Addr) : putF "at" (.int 0) (putF "octets" (.ref L) []) = reqF L 0 := by
  have e : putF ("octets" : Str) (.ref L) [] = [(("octets" : Str), V.ref L)] := rfl
  rw [e]
  show (if ("octets" : Str) = "at" then _ else (("octets" : Str), V.ref L) :: putF ("at" : Str) (.int 0) []) = _
  rw [if_neg (by decide +kernel)]; rfl
/-- a request at a over the octets bs at L: r is still to be read -/
def ReqAt (K : PySem.W.Frag) (C : Addr) (H : Hp) (a L : Addr) (bs r : List UInt8) : Prop :=
  ∃ (dx : Addr) (pre : List UInt8), H a = some (.ins C dx (reqF L pre.length)) ∧ bs = pre ++ r ∧ SqL K H L (oV bs) ∧ bs.length ≤ 100000
theorem ReqAt.ins {K : PySem.W.Frag} {C a L : Addr} {H : Hp} {bs r : List UInt8} (q : ReqAt K C H a L bs r) : ∃ dx i, H a = some (.ins C dx (reqF L i)) := by
  obtain ⟨dx, pre, h, _⟩ := q
  exact ⟨dx, _, h⟩
theorem ReqAt.tst {K : PySem.W.Frag} {C a L : Addr} {H H' : Hp} {bs r : List UInt8} (q : ReqAt K C H a L bs r) (x : FrB a H H') : TSt K H H' := by
  obtain ⟨dx, pre, h, _⟩ := q
  exact x.tst h
theorem ReqAt.seq {K : PySem.W.Frag} {C a L : Addr} {H H' : Hp} {bs r : List UInt8} (q : ReqAt K C H a L bs r) (x : FrB a H H') : SqL K H' L (oV bs) := by
  obtain ⟨dx, pre, h, _, h2, _⟩ := q
  exact x.seq h h2
theorem ReqAt.same {K : PySem.W.Frag} {C a L : Addr} {H H' : Hp} {bs r : List UInt8} (q : ReqAt K C H a L bs r) (s : Same H H') : ReqAt K C H' a L bs r := by
  obtain ⟨dx, pre, h, h1, h2, h3⟩ := q
  exact ⟨dx, pre, s _ _ h, h1, s.seq h2, h3⟩
theorem ReqAt.mv {K : PySem.W.Frag} {C a L : Addr} {H H' : Hp} {bs r : List UInt8} (q : ReqAt K C H a L bs r) (e : H' a = H a) (s : SqL K H' L (oV bs)) : ReqAt K C H' a L bs r := by
  obtain ⟨dx, pre, h, h1, h2, h3⟩ := q
  exact ⟨dx, pre, e.trans h, h1, s, h3⟩
theorem ReqAt.len {K : PySem.W.Frag} {C a L : Addr} {H : Hp} {bs r : List UInt8} (q : ReqAt K C H a L bs r) : r.length ≤ 100000 := by
  obtain ⟨dx, pre, _, rfl, _, h⟩ := q
  rw [List.length_append] at h; omega

/-! ### reading -/
theorem front_is : ∀ {k : Nat} {r : List UInt8} {p : List UInt8 × List UInt8}, RWire.front k r = some p → k ≤ r.length ∧ p = (r.take k, r.drop k)
  | 0, r, p, h => by
    cases h
    exact ⟨Nat.zero_le _, by simp⟩
  | k + 1, [], p, h => by cases h
  | k + 1, a :: r, p, h => by
    have h : (match RWire.front k r with | none => none | some p => some (a :: p.1, p.2)) = some p := h
    cases e : RWire.front k r with
    | none => rw [e] at h; cases h
    | some q =>
      rw [e] at h
      cases h
      obtain ⟨h1, h2⟩ := front_is e
      rw [h2]
      exact ⟨by simpa using h1, rfl⟩
theorem readNum_is {k : Nat} {r : List UInt8} {p : Nat × List UInt8} (h : RWire.readNum k r = some p) : k ≤ r.length ∧ p = (RWire.numOf (r.take k), r.drop k) := by
  unfold RWire.readNum at h
  cases e : RWire.front k r with
  | none => rw [e] at h; cases h
  | some q =>
    rw [e] at h
    obtain ⟨h1, h2⟩ := front_is e
    cases h
    rw [h2]
    exact ⟨h1, rfl⟩
theorem readText_is {r : List UInt8} {p : List UInt8 × List UInt8} (h : RWire.readText r = some p) :
    4 ≤ r.length ∧ RWire.numOf (r.take 4) ≤ (r.drop 4).length ∧ p = ((r.drop 4).take (RWire.numOf (r.take 4)), (r.drop 4).drop (RWire.numOf (r.take 4))) := by
  unfold RWire.readText at h
  cases e : RWire.readNum 4 r with
  | none => rw [e] at h; cases h
  | some q =>
    rw [e] at h
    obtain ⟨h1, h2⟩ := readNum_is e
    rw [h2] at h
    obtain ⟨h3, h4⟩ := front_is h
    exact ⟨h1, h3, h4⟩
theorem readText_le {r : List UInt8} {p : List UInt8 × List UInt8} (h : RWire.readText r = some p) : p.2.length ≤ r.length := by
  obtain ⟨_, _, e⟩ := readText_is h
  rw [e]
  simp only [List.length_drop]
  omega
/-- so many things, one by one -/
theorem readMany_is {α : Type} {f : List UInt8 → Option (α × List UInt8)} : ∀ {n : Nat} {r : List UInt8} {l : List α} {r' : List UInt8}, RWire.readMany f n r = some (l, r') →
    l.length = n ∧ ∃ rs : Nat → List UInt8, rs 0 = r ∧ rs n = r' ∧ ∀ i, i < n → ∃ v, l[i]? = some v ∧ f (rs i) = some (v, rs (i + 1))
  | 0, r, l, r', h => by
    cases h
    exact ⟨rfl, fun _ => r, rfl, rfl, fun i hi => absurd hi (by omega)⟩
  | n + 1, r, l, r', h => by
    have h : (match f r with | none => none | some p => (match RWire.readMany f n p.2 with | none => none | some q => some (p.1 :: q.1, q.2))) = some (l, r') := h
    cases e : f r with
    | none => rw [e] at h; cases h
    | some p =>
      rw [e] at h
      simp only at h
      cases e2 : RWire.readMany f n p.2 with
      | none => rw [e2] at h; cases h
      | some q =>
        rw [e2] at h
        cases h
        obtain ⟨h1, rs, h2, h3, h4⟩ := readMany_is (l := q.1) (r' := q.2) e2
        refine ⟨by rw [List.length_cons, h1], fun i => match i with | 0 => r | j + 1 => rs j, rfl, h3, fun i hi => ?_⟩
        cases i with
        | zero => exact ⟨p.1, rfl, by show f r = some (p.1, rs 0); rw [h2, e]⟩
        | succ j => exact h4 j (by omega)
theorem many_shrink {α : Type} {f : List UInt8 → Option (α × List UInt8)} (hf : ∀ r v r', f r = some (v, r') → r'.length < r.length) {n : Nat} {rs : Nat → List UInt8} {l : List α} (h : ∀ i, i < n → ∃ v, l[i]? = some v ∧ f (rs i) = some (v, rs (i + 1))) :
    ∀ i, i ≤ n → (rs i).length + i ≤ (rs 0).length
  | 0, _ => Nat.le_refl _
  | i + 1, hi => by
    have ih := many_shrink hf h i (by omega)
    obtain ⟨v, _, e⟩ := h i (by omega)
    have := hf _ _ _ e
    omega
theorem readF_shrink : ∀ (n : Nat) (r : List UInt8) (v : RWire.Value) (r' : List UInt8), RWire.readF n r = some (v, r') → r'.length < r.length
  | 0, r, v, r', h => by cases h
  | n + 1, [], v, r', h => by cases h
  | n + 1, k :: r, v, r', h => by
    have ih := readF_shrink n
    have h : RWire.readKind (RWire.readF n) k.toNat r = some (v, r') := h
    suffices r'.length ≤ r.length by rw [List.length_cons]; omega
    unfold RWire.readKind at h
    split at h
    · cases h; exact Nat.le_refl _
    · cases h; exact Nat.le_refl _
    · cases h; exact Nat.le_refl _
    · cases h; exact Nat.le_refl _
    · unfold RWire.readInt at h
      cases e : RWire.readNum 8 r with
      | none => rw [e] at h; cases h
      | some p =>
        rw [e] at h
        obtain ⟨h1, h2⟩ := readNum_is e
        simp only at h
        split at h
        · cases h
          rw [h2]; simp only [List.length_drop]; omega
        · cases h
    · unfold RWire.readBig at h
      cases r with
      | nil => cases h
      | cons s r =>
        simp only at h
        cases e : RWire.readNum 4 r with
        | none => rw [e] at h; cases h
        | some p =>
          rw [e] at h
          obtain ⟨h1, h2⟩ := readNum_is e
          simp only at h
          cases e3 : RWire.front p.1 p.2 with
          | none => rw [e3] at h; cases h
          | some q =>
            rw [e3] at h
            obtain ⟨h3, h4⟩ := front_is e3
            simp only at h
            cases e5 : RWire.bigOf s q.1 with
            | none => rw [e5] at h; cases h
            | some z =>
              rw [e5] at h
              cases h
              rw [h4, h2]; simp only [List.length_drop, List.length_cons]; omega
    · unfold RWire.readWords at h
      cases e : RWire.readText r with
      | none => rw [e] at h; cases h
      | some p =>
        rw [e] at h
        cases h
        exact readText_le e
    · unfold RWire.readList at h
      cases e : RWire.readNum 4 r with
      | none => rw [e] at h; cases h
      | some p =>
        rw [e] at h
        obtain ⟨h1, h2⟩ := readNum_is e
        simp only at h
        cases e3 : RWire.readMany (RWire.readF n) p.1 p.2 with
        | none => rw [e3] at h; cases h
        | some q =>
          rw [e3] at h
          cases h
          obtain ⟨_, rs, g1, g2, g3⟩ := readMany_is e3
          have := many_shrink ih g3 _ (Nat.le_refl _)
          rw [g1, g2, h2] at this
          simp only [List.length_drop] at this ⊢
          omega
    · unfold RWire.readRecord at h
      cases e : RWire.readNum 4 r with
      | none => rw [e] at h; cases h
      | some p =>
        rw [e] at h
        obtain ⟨h1, h2⟩ := readNum_is e
        simp only at h
        cases e3 : RWire.readMany (RWire.readEntry (RWire.readF n)) p.1 p.2 with
        | none => rw [e3] at h; cases h
        | some q =>
          rw [e3] at h
          simp only at h
          split at h
          · cases h
            obtain ⟨_, rs, g1, g2, g3⟩ := readMany_is e3
            have ihE : ∀ r (v : RWire.Text × RWire.Value) r', RWire.readEntry (RWire.readF n) r = some (v, r') → r'.length < r.length := fun r v r' h => by
              unfold RWire.readEntry at h
              cases e : RWire.readText r with
              | none => rw [e] at h; cases h
              | some p =>
                rw [e] at h
                simp only at h
                cases e4 : RWire.readF n p.2 with
                | none => rw [e4] at h; cases h
                | some q =>
                  rw [e4] at h
                  cases h
                  have := readText_le e
                  have := ih _ _ _ e4
                  omega
            have := many_shrink ihE g3 _ (Nat.le_refl _)
            rw [g1, g2, h2] at this
            simp only [List.length_drop] at this ⊢
            omega
          · cases h
    · unfold RWire.readOctets at h
      cases e : RWire.readText r with
      | none => rw [e] at h; cases h
      | some p =>
        rw [e] at h
        cases h
        exact readText_le e
    · unfold RWire.readWide at h
      cases e : RWire.readNum 4 r with
      | none => rw [e] at h; cases h
      | some p =>
        rw [e] at h
        obtain ⟨h1, h2⟩ := readNum_is e
        simp only at h
        have sl : ∀ (n : Nat) (b : List UInt8) (p : List UInt16 × List UInt8), RWire.readSigns n b = some p → p.2.length ≤ b.length := by
          intro n
          induction n with
          | zero => intro b p h; cases h; exact Nat.le_refl _
          | succ n ih2 =>
            intro b p h
            match b, h with
            | a :: c :: b, h =>
              have h : (match RWire.readSigns n b with | none => none | some p => some (UInt16.ofNat (a.toNat + 256 * c.toNat) :: p.1, p.2)) = some p := h
              cases e : RWire.readSigns n b with
              | none => rw [e] at h; cases h
              | some q =>
                rw [e] at h
                cases h
                have := ih2 _ _ e
                simp only [List.length_cons]; omega
        cases e3 : RWire.readSigns p.1 p.2 with
        | none => rw [e3] at h; cases h
        | some q =>
          rw [e3] at h
          simp only at h
          split at h
          · cases h
            have := sl _ _ _ e3
            rw [h2] at this
            simp only [List.length_drop] at this
            omega
          · cases h
    · cases h

theorem numOf_step {pre r : List UInt8} {n j : Nat} (hn : n ≤ r.length) (hj : j < n) :
    ∃ c : UInt8, (pre ++ r)[pre.length + n - 1 - j]? = some c ∧ RWire.numOf ((r.take n).drop (n - (j + 1))) = c.toNat + 256 * RWire.numOf ((r.take n).drop (n - j)) := by
  have hl : n - (j + 1) < (r.take n).length := by rw [List.length_take]; omega
  refine ⟨(r.take n)[n - (j + 1)], ?_, ?_⟩
  · rw [List.getElem?_append_right (by omega)]
    have e : pre.length + n - 1 - j - pre.length = n - (j + 1) := by omega
    rw [e, List.getElem_take, List.getElem?_eq_getElem (by omega)]
  · rw [List.drop_eq_getElem_cons hl]
    have e : n - (j + 1) + 1 = n - j := by omega
    rw [e]; rfl

theorem cut_mid {pre s : List UInt8} {m : Nat} (h : m ≤ s.length) : cutV (oV (pre ++ s)) (some ((pre.length : Nat) : Int)) (some ((pre.length + m : Nat) : Int)) = oV (s.take m) := by
  unfold cutV
  rw [HT.sIx_nat, HT.sIx_nat, oV_length, List.length_append]
  have e1 : min pre.length (pre.length + s.length) = pre.length := by omega
  have e2 : min (pre.length + m) (pre.length + s.length) = pre.length + m := by omega
  rw [e1, e2, oV_app, List.drop_left' (oV_length pre)]
  have e3 : pre.length + m - pre.length = m := by omega
  rw [e3]
  unfold oV
  rw [List.map_take]
def spRinit (C : Addr) : Sp := fun vs H Q _ => ∃ a L dx : Addr, vs = [.ref a, .ref L] ∧ H a = some (.ins C dx []) ∧ ∀ H', H' a = some (.ins C dx (reqF L 0)) → FrB a H H' → Q .non H'
def spNumber (K : PySem.W.Frag) (C : Addr) : Sp := fun vs H Q _ => ∃ (a L : Addr) (n : Nat) (bs r : List UInt8), vs = [.ref a, .int n] ∧ ReqAt K C H a L bs r ∧ n ≤ r.length ∧ ∀ H', ReqAt K C H' a L bs (r.drop n) → FrB a H H' → Q (.int (RWire.numOf (r.take n) : Nat)) H'
def spPlain (K : PySem.W.Frag) (C : Addr) : Sp := fun vs H Q _ => ∃ (a L : Addr) (bs r u r' : List UInt8), vs = [.ref a] ∧ ReqAt K C H a L bs r ∧ RWire.readText r = some (u, r') ∧ ∀ H' p, ReqAt K C H' a L bs r' → FrB a H H' → H' p = some (.tup (oV u)) → Q (.ref p) H'
section
variable {P : Program} {w : World} {K : PySem.W.Frag} {mg : Str → Option Value} {base : Heap} {A : Adr}
theorem ok_R_init (T : Txt K mg A) : Ok P w K mg base CX0 1 A.f_R_init p_R_init (spRinit A.c_R) := by
  refine ok_of T.F_R_init sc_R_init (fun vs H Q E h => ?_) (fun cdv A' outer s H vs Q E hr h => ?_)
  · obtain ⟨a, L, dx, rfl, _⟩ := h
    rfl
  · obtain ⟨a, L, dx, rfl, ha, k⟩ := h
    refine ⟨_, pss_cons (ps_fld (pv 0) (pv 1) rfl) (pss_one (ps_fld (pv 0) pe_int rfl)), ?_⟩
    refine ⟨_, rfl, _, rfl, a, A.c_R, dx, [], rfl, ha, T.cl_R, T.a_R_octets, (by show 0 < 1000; decide), ?_⟩
    refine ⟨_, rfl, a, A.c_R, dx, _, rfl, upd_same, T.cl_R, T.a_R_at, (by show 1 < 1000; decide), ?_⟩
    refine k _ ?_ (FrB.wr.trans FrB.wr)
    rw [upd_same, reqF_new]
theorem ok_R_number (T : Txt K mg A) : Ok P w K mg base CX0 1 A.f_R_number p_R_number (spNumber K A.c_R) := by
  refine ok_of T.F_R_number sc_R_number (fun vs H Q E h => ?_) (fun cdv A' outer s H vs Q E hr h => ?_)
  · obtain ⟨a, L, n, bs, r, rfl, _⟩ := h
    rfl
  · obtain ⟨a, L, n, _, r, rfl, ⟨dx, pre, ha, rfl, hL, hlen⟩, hn, k⟩ := h
    have hrl : r.length ≤ 100000 := by rw [List.length_append] at hlen; omega
    refine ⟨_, pss_cons (ps_set (i := 2) sc_R_number.nd rfl (Or.inl rfl) pe_int)
      (pss_cons (ps_for PassesOwn.never rfl (pi_range1 rfl T.b_range (pa_cons (pv 1) pa_nil)) (pg_name (i := 3) sc_R_number.nd rfl (Or.inl rfl))
        (pss_one (ps_set (i := 2) sc_R_number.nd rfl (Or.inl rfl) (pe_op op_add (pe_op op_mul pe_int (pv 2)) (pe_ix ix_list (pe_fld (pv 0) rfl) (pe_op op_sub (pe_op op_sub (pe_op op_add (pe_fld (pv 0) rfl) (pv 1)) pe_int) (pv 3)) (fun _ _ => rfl))))))
      (pss_cons (ps_fldaug (pv 0) (pv 1) in_add) (pss_one (ps_ret (pv 2))))), ?_⟩
    refine ⟨_, rfl, n, rfl, by omega, by omega, for_range (n := n) (lo := 0) (fun j σ H' => ∃ v, σ = [some (.ref a), some (.int n), some (.int (RWire.numOf ((r.take n).drop (n - j)) : Nat)), v] ∧ H' = H)
      ⟨none, by rw [Nat.sub_zero, List.drop_eq_nil_of_le (by rw [List.length_take]; omega)]; rfl, rfl⟩ ?_ ?_⟩
    · rintro j σ H' hj ⟨v, rfl, rfl⟩
      obtain ⟨c, h1, h2⟩ := numOf_step (pre := pre) hn hj
      refine ⟨_, rfl, _, _, rfl, rfl, .inl ⟨by decide, by decide⟩, ?_⟩
      refine ⟨_, rfl, a, _, dx, _, _, rfl, ha, T.cl_R, T.a_R_octets, reqF_oct _ _, ?_⟩
      refine ⟨_, rfl, a, _, dx, _, _, rfl, ha, T.cl_R, T.a_R_at, reqF_at _ _, _, rfl, _, _, rfl, rfl, _, _, rfl, rfl, _, rfl, _, _, rfl, rfl, ?_⟩
      have e : (pre.length : Int) + n - 1 - (0 + (j : Int)) = ((pre.length + n - 1 - j : Nat) : Int) := by omega
      refine ⟨L, _, _, .int (c.toNat : Nat), rfl, rfl, hL, ?_, ?_⟩
      · rw [e]
        refine atI_nat ?_
        unfold oV
        rw [List.getElem?_map, h1]; rfl
      · refine ⟨_, _, rfl, rfl, some (.int (0 + (j : Int))), ?_, rfl⟩
        rw [h2]
        have e2 : (256 : Int) * ((RWire.numOf ((r.take n).drop (n - j)) : Nat) : Int) + ((c.toNat : Nat) : Int) = ((c.toNat + 256 * RWire.numOf ((r.take n).drop (n - j)) : Nat) : Int) := by omega
        rw [← e2]; rfl
    · rintro σ H' ⟨v, rfl, rfl⟩
      refine ⟨_, rfl, a, _, dx, _, _, rfl, ha, T.cl_R, T.a_R_at, reqF_at _ _, _, rfl, _, _, rfl, rfl, dx, _, ha, (by show 2 < 1000; decide), ?_⟩
      refine ⟨_, rfl, ?_⟩
      rw [Nat.sub_self, List.drop_zero]
      refine k _ ⟨dx, pre ++ r.take n, ?_, ?_, ?_, hlen⟩ FrB.wr
      · rw [upd_same, reqF_put]
        have e : (pre.length : Int) + (n : Int) = ((pre ++ r.take n).length : Nat) := by
          rw [List.length_append, List.length_take]; omega
        rw [e]
      · rw [List.append_assoc, List.take_append_drop]
      · exact FrB.seq (a := a) FrB.wr ha hL
theorem ok_R_plain (T : Txt K mg A) : Ok P w K mg base CX0 2 A.f_R_plain p_R_plain (spPlain K A.c_R) := by
  have G := ok_R_number (P := P) (w := w) (base := base) T
  refine ok_of T.F_R_plain sc_R_plain (fun vs H Q E h => ?_) (fun cdv A' outer s H vs Q E hr h => ?_)
  · obtain ⟨a, L, bs, r, u, r', rfl, _⟩ := h
    rfl
  · obtain ⟨a, L, bs, r, u, r', rfl, hR, ht, k⟩ := h
    obtain ⟨h1, h2, h3⟩ := readText_is ht
    cases h3
    refine ⟨_, pss_cons (ps_set (i := 1) sc_R_plain.nd rfl (Or.inl rfl) (fn_meth G T.cl_R T.m_R_number hr (pv 0) (pa_cons pe_int pa_nil)))
      (pss_cons (ps_fldaug (pv 0) (pv 1) in_add)
      (pss_one (ps_ret (pe_tupOf T.b_tuple (pe_slice sl_list (pe_fld (pv 0) rfl) (po_some (pe_op op_sub (pe_fld (pv 0) rfl) (pv 1))) (po_some (pe_fld (pv 0) rfl))))))), ?_⟩
    obtain ⟨dx0, i0, ha0⟩ := hR.ins
    refine ⟨_, rfl, a, dx0, _, rfl, ha0, reqF_no (by decide +kernel) _ _, a, L, 4, bs, r, rfl, hR, h1, fun H1 hR1 f1 => ?_⟩
    obtain ⟨dx, pre, ha, rfl, hL, hlen⟩ := hR1
    generalize hm : RWire.numOf (r.take 4) = m at *
    have hz : (r.drop 4).length ≤ 100000 := by rw [List.length_append] at hlen; omega
    refine ⟨_, rfl, a, _, dx, _, _, rfl, ha, T.cl_R, T.a_R_at, reqF_at _ _, _, rfl, _, _, rfl, rfl, dx, _, ha, (by show 2 < 1000; decide), ?_⟩
    have ha2 : (upd H1 a (.ins A.c_R dx (putF "at" (.int ((pre.length : Int) + (m : Int))) (reqF L pre.length)))) a = some (.ins A.c_R dx (reqF L ((pre.length : Int) + (m : Int)))) := by rw [upd_same, reqF_put]
    have hL2 := FrB.seq (K := K) (a := a) (FrB.wr (o := .ins A.c_R dx (putF "at" (.int ((pre.length : Int) + (m : Int))) (reqF L pre.length)))) ha hL
    refine ⟨_, rfl, a, _, dx, _, _, rfl, ha2, T.cl_R, T.a_R_octets, reqF_oct _ _, ?_⟩
    refine ⟨_, rfl, a, _, dx, _, _, rfl, ha2, T.cl_R, T.a_R_at, reqF_at _ _, _, rfl, _, _, rfl, rfl, _, rfl, ?_⟩
    refine ⟨_, rfl, a, _, dx, _, _, rfl, ha2, T.cl_R, T.a_R_at, reqF_at _ _, _, rfl, ?_⟩
    have ec : cutV (oV (pre ++ r.drop 4)) (some ((pre.length : Int) + (m : Int) - (m : Int))) (some ((pre.length : Int) + (m : Int))) = oV ((r.drop 4).take m) := by
      have e1 : (pre.length : Int) + (m : Int) - (m : Int) = ((pre.length : Nat) : Int) := by omega
      have e2 : (pre.length : Int) + (m : Int) = ((pre.length + m : Nat) : Int) := by omega
      rw [e1, e2]
      exact cut_mid h2
    refine ⟨L, _, rfl, hL2, fun p hp => ?_⟩
    rw [ec]
    refine ⟨p, _, rfl, .inl ⟨.of upd_same, fun q hq => ?_⟩⟩
    refine k _ q ⟨dx, pre ++ (r.drop 4).take m, ?_, ?_, ?_, hlen⟩ ?_ upd_same
    · rw [upd_ne (ne_of_none (Same.new hp _ _ ha2) hq), upd_ne (ne_of_none ha2 hp), ha2]
      have e : (pre.length : Int) + (m : Int) = ((pre ++ (r.drop 4).take m).length : Nat) := by
        rw [List.length_append, List.length_take]; omega
      rw [e]
    · rw [List.append_assoc, List.take_append_drop]
    · exact ((Same.new hp).trans (Same.new hq)).seq hL2
    · exact f1.trans (FrB.wr.trans (FrB.same ((Same.new hp).trans (Same.new hq))))
end
end Rl
end
section
set_option Elab.async false
set_option linter.all false
set_option maxRecDepth 100000
set_option maxHeartbeats 4000000
/-! RlReq2: a request's values, a whole request. -/
namespace Rl
open PySem PySem.Spec PyProof.Rows L2

/-- of the document's kinds -/
structure Pl (v : RWire.Value) : Prop where
  b : RWire.noBig v = true
  o : RWire.noOctets v = true
  w : RWire.noWide v = true
structure PlMany (l : List RWire.Value) : Prop where
  b : RWire.noBigMany l = true
  o : RWire.noOctetsMany l = true
  w : RWire.noWideMany l = true
theorem PlMany.get : ∀ {l : List RWire.Value} {i : Nat} {v : RWire.Value}, PlMany l → l[i]? = some v → Pl v
  | [], i, v, _, h => by simp at h
  | a :: r, 0, v, p, h => by
    cases h
    have h1 := p.b; have h2 := p.o; have h3 := p.w
    simp only [RWire.noBigMany, RWire.noOctetsMany, RWire.noWideMany, Bool.and_eq_true] at h1 h2 h3
    exact ⟨h1.1, h2.1, h3.1⟩
  | a :: r, i + 1, v, p, h => by
    have h1 := p.b; have h2 := p.o; have h3 := p.w
    simp only [RWire.noBigMany, RWire.noOctetsMany, RWire.noWideMany, Bool.and_eq_true] at h1 h2 h3
    exact PlMany.get (l := r) (i := i) ⟨h1.2, h2.2, h3.2⟩ h
theorem Pl.list {l : List RWire.Value} (p : Pl (.list l)) : PlMany l := by
  have h1 := p.b; have h2 := p.o; have h3 := p.w
  simp only [RWire.noBig, RWire.noOctets, RWire.noWide] at h1 h2 h3
  exact ⟨h1, h2, h3⟩
theorem Pl.ents : ∀ {l : List (RWire.Text × RWire.Value)} {i : Nat} {e : RWire.Text × RWire.Value}, Pl (.record l) → l[i]? = some e → Pl e.2
  | [], i, v, _, h => by simp at h
  | a :: r, i, e, p, h => by
    have h1 := p.b; have h2 := p.o; have h3 := p.w
    simp only [RWire.noBig, RWire.noOctets, RWire.noWide, RWire.noBigEntries, RWire.noOctetsEntries, RWire.noWideEntries, Bool.and_eq_true] at h1 h2 h3
    cases i with
    | zero => cases h; exact ⟨h1.1, h2.1, h3.1⟩
    | succ i =>
      refine Pl.ents (l := r) (i := i) ⟨?_, ?_, ?_⟩ h
      · simp only [RWire.noBig]; exact h1.2
      · simp only [RWire.noOctets]; exact h2.2
      · simp only [RWire.noWide]; exact h3.2
theorem numOf_one (k : UInt8) (r : List UInt8) : RWire.numOf ((k :: r).take 1) = k.toNat := by
  show k.toNat + 256 * 0 = _
  omega
theorem numOf_lt : ∀ (l : List UInt8), RWire.numOf l < 256 ^ l.length
  | [] => by decide
  | a :: r => by
    have ih := numOf_lt r
    have ha := a.toNat_lt
    show a.toNat + 256 * RWire.numOf r < 256 ^ (r.length + 1)
    rw [Nat.pow_succ]
    omega
theorem take_snoc {α : Type} {l : List α} {i : Nat} {v : α} (h : l[i]? = some v) : l.take (i + 1) = l.take i ++ [v] := by
  rw [List.take_add_one, h]; rfl
theorem VRe.app {K : PySem.W.Frag} {H : Hp} : ∀ {l m : List (RWire.Text × RWire.Value)} {xs ys : List V}, VRe K H l xs → VRe K H m ys → VRe K H (l ++ m) (xs ++ ys)
  | [], m, xs, ys, h, k => by
    unfold VRe at h
    subst h
    exact k
  | v :: r, m, xs, ys, h, k => by
    unfold VRe at h
    obtain ⟨t, n, y, zs, e, h1, h2, h3, h4⟩ := h
    subst e
    show VRe K H (v :: (r ++ m)) (V.ref t :: (zs ++ ys))
    unfold VRe
    exact ⟨t, n, y, zs ++ ys, rfl, h1, h2, h3, VRe.app h4 k⟩

def spValue (K : PySem.W.Frag) (C : Addr) (n : Nat) : Sp := fun vs H Q _ => ∃ (a L : Addr) (bs r : List UInt8) (v : RWire.Value) (r' : List UInt8), vs = [.ref a] ∧ ReqAt K C H a L bs r ∧ RWire.readF n r = some (v, r') ∧ Pl v ∧
  ∀ H' x, ReqAt K C H' a L bs r' → FrB a H H' → VR K H' v x → Q x H'

section
variable {P : Program} {w : World} {K : PySem.W.Frag} {mg : Str → Option Value} {base : Heap} {A : Adr}
theorem ok_R_value (T : Txt K mg A) : ∀ n, Ok P w K mg base CX0 (n + 3) A.f_R_value p_R_value (spValue K A.c_R n) := by
  have Gn := ok_R_number (P := P) (w := w) (base := base) T
  have Gp := ok_R_plain (P := P) (w := w) (base := base) T
  have Gi := ok_integer (P := P) (w := w) (base := base) T
  intro n
  induction n with
  | zero =>
    refine ok_of T.F_R_value sc_R_value (fun vs H Q E h => ?_) (fun cdv A' outer s H vs Q E hr h => ?_)
    · obtain ⟨a, L, bs, r, v, r', rfl, _⟩ := h
      rfl
    · obtain ⟨a, L, bs, r, v, r', rfl, _, hd, _⟩ := h
      cases hd
  | succ n ih =>
    refine ok_of T.F_R_value sc_R_value (fun vs H Q E h => ?_) (fun cdv A' outer s H vs Q E hr h => ?_)
    · obtain ⟨a, L, bs, r, v, r', rfl, _⟩ := h
      rfl
    · obtain ⟨a, L, bs, r, v, r', rfl, hR, hd, hp, k⟩ := h
      obtain ⟨uI, hI, rI⟩ := T.v_INTEGER
      obtain ⟨uT, hT, rT⟩ := T.v_TEXT
      obtain ⟨uW, hW, rW⟩ := T.v_WORD
      obtain ⟨uR, hRc, rR⟩ := T.v_RECORD
      obtain ⟨uO, hO, rO⟩ := T.v_OCTETS
      obtain ⟨uH, hH, rH⟩ := T.v_HALF
      have hr1 : Room 1 _ := hr.mono (by omega)
      have hr2 : Room 2 _ := hr.mono (by omega)
      refine ⟨_, pss_cons (ps_set (i := 1) sc_R_value.nd rfl (Or.inl rfl) (fn_meth Gn T.cl_R T.m_R_number hr1 (pv 0) (pa_cons pe_int pa_nil)))
        (pss_cons (ps_if (pt_cmpR op_eq (pv 1) (pe_glob rfl hI rI) (nomark _)) (pss_cons (ps_set (i := 2) sc_R_value.nd rfl (Or.inl rfl) (fn_meth Gn T.cl_R T.m_R_number hr1 (pv 0) (pa_cons pe_int pa_nil)))
          (pss_one (ps_ret (fn_call Gi T.g_integer hr1 (pa_cons (pe_ifExp (pt_cmpR op_ge (pv 2) (pe_glob rfl hH rH) (nomark _)) (pe_op op_sub (pv 2) (pe_glob rfl hW rW)) (pv 2)) pa_nil))))) pss_nil)
        (pss_cons (ps_if (pt_cmpR op_eq (pv 1) (pe_glob rfl hT rT) (nomark _)) (pss_one (ps_ret (pe_tup (pa_cons (pe_glob rfl hT rT) (pa_cons (fn_meth0 Gp T.cl_R T.m_R_plain hr2 (pv 0)) pa_nil))))) pss_nil)
        (pss_cons (ps_if (pt_cmpR op_lt (pv 1) (pe_glob rfl hI rI) (nomark _)) (pss_one (ps_ret (pe_tup (pa_cons (pv 1) pa_nil)))) pss_nil)
        (pss_cons (ps_if (pt_cmpR op_eq (pv 1) (pe_glob rfl hO rO) (nomark _)) pss_never pss_nil)
        (pss_cons (ps_set (i := 3) sc_R_value.nd rfl (Or.inl rfl) (pe_lst pa_nil))
        (pss_cons (ps_for PassesOwn.never rfl (pi_range1 rfl T.b_range (pa_cons (fn_meth Gn T.cl_R T.m_R_number hr1 (pv 0) (pa_cons pe_int pa_nil)) pa_nil)) (pg_name (i := 4) sc_R_value.nd rfl (Or.inl rfl))
          (pss_one (ps_if (pt_cmpR op_eq (pv 1) (pe_glob rfl hRc rR) (nomark _))
            (pss_cons (ps_set (i := 5) sc_R_value.nd rfl (Or.inl rfl) (fn_meth0 Gp T.cl_R T.m_R_plain hr2 (pv 0)))
              (pss_one (ps_expr (pe_append (pv 3) (pe_tup (pa_cons (pv 5) (pa_cons (fn_meth0 ih T.cl_R T.m_R_value hr (pv 0) (Nat.le_refl _)) pa_nil)))))))
            (pss_one (ps_expr (pe_append (pv 3) (fn_meth0 ih T.cl_R T.m_R_value hr (pv 0) (Nat.le_refl _))))))))
        (pss_one (ps_ret (pe_tup (pa_cons (pv 1) (pa_cons (pe_tupOf T.b_tuple (pv 3)) pa_nil))))))))))), ?_⟩
      cases r with
      | nil => cases hd
      | cons k0 r1 =>
      have hd : RWire.readKind (RWire.readF n) k0.toNat r1 = some (v, r') := hd
      obtain ⟨dx0, i0, ha0⟩ := hR.ins
      have nN : ∀ (L : Addr) (i : Int), (reqF L i).lookup ("number" : Str) = none := fun L i => reqF_no (by decide +kernel) L i
      have nP : ∀ (L : Addr) (i : Int), (reqF L i).lookup ("plain" : Str) = none := fun L i => reqF_no (by decide +kernel) L i
      have nV : ∀ (L : Addr) (i : Int), (reqF L i).lookup ("value" : Str) = none := fun L i => reqF_no (by decide +kernel) L i
      refine ⟨_, rfl, a, dx0, _, rfl, ha0, nN _ _, a, L, 1, bs, k0 :: r1, rfl, hR, (by rw [List.length_cons]; omega), fun H1 hR1 f1 => ?_⟩
      rw [numOf_one]
      have hR1 : ReqAt K A.c_R H1 a L bs r1 := hR1
      generalize k0.toNat = kk at hd ⊢
      obtain ⟨dx1, i1, ha1⟩ := hR1.ins
      by_cases hsc : kk < 4 ∧ r' = r1 ∧ (∀ H' p, SqT K H' p [.int kk] → VR K H' v (.ref p))
      · obtain ⟨hk, rfl, hv⟩ := hsc
        refine ⟨_, rfl, rfl, _, rfl, if_no (decide_eq_false (by intro z; injection z with z; omega)) ?_⟩
        refine ⟨_, rfl, rfl, _, rfl, if_no (decide_eq_false (by intro z; injection z with z; omega)) ?_⟩
        refine ⟨_, rfl, _, _, rfl, rfl, _, rfl, if_yes (decide_eq_true (by omega)) ?_⟩
        refine ⟨_, rfl, (by show 1 ≤ sizeLine; decide), fun p hp => ?_⟩
        exact k _ _ (hR1.same (Same.new hp)) (f1.trans (FrB.same (Same.new hp))) (hv _ _ (.of upd_same))
      unfold RWire.readKind at hd
      split at hd
      · cases hd
        exact (hsc ⟨by decide, rfl, fun H' p h => by unfold VR; exact ⟨p, rfl, h⟩⟩).elim
      · cases hd
        exact (hsc ⟨by decide, rfl, fun H' p h => by unfold VR; exact ⟨p, rfl, h⟩⟩).elim
      · cases hd
        exact (hsc ⟨by decide, rfl, fun H' p h => by unfold VR; exact ⟨p, rfl, h⟩⟩).elim
      · cases hd
        exact (hsc ⟨by decide, rfl, fun H' p h => by unfold VR; exact ⟨p, rfl, h⟩⟩).elim
      · -- an integer
        unfold RWire.readInt at hd
        cases e : RWire.readNum 8 r1 with
        | none => rw [e] at hd; cases hd
        | some p =>
          rw [e] at hd
          obtain ⟨h1, h2⟩ := readNum_is e
          simp only at hd
          split at hd
          · rename_i hle
            cases hd
            subst h2
            refine ⟨_, rfl, rfl, _, rfl, if_yes rfl ?_⟩
            refine ⟨_, rfl, a, dx1, _, rfl, ha1, nN _ _, a, L, 8, bs, r1, rfl, hR1, h1, fun H2 hR2 f2 => ?_⟩
            have lt := numOf_lt (r1.take 8)
            rw [List.length_take, show min 8 r1.length = 8 by omega] at lt
            have e1 : RWire.intOf (RWire.numOf (r1.take 8)) = if (9223372036854775808 : Int) ≤ ((RWire.numOf (r1.take 8) : Nat) : Int) then ((RWire.numOf (r1.take 8) : Nat) : Int) - 18446744073709551616 else ((RWire.numOf (r1.take 8) : Nat) : Int) := by
              unfold RWire.intOf
              have ew : RWire.wordMost = 18446744073709551616 := rfl
              rw [ew]
              by_cases c : RWire.numOf (r1.take 8) < 9223372036854775808
              · rw [if_pos (decide_eq_true c), if_neg (by omega)]; rfl
              · rw [if_neg (by simpa using c), if_pos (by omega)]; rfl
            refine ⟨_, rfl, _, _, rfl, rfl, _, rfl, ?_⟩
            refine ite2 (fun c => ?_) (fun c => ?_)
            · rw [if_pos (of_decide_eq_true c)] at e1
              refine ⟨_, rfl, _, _, rfl, rfl, _, rfl, fun H3 x s3 v3 => ?_⟩
              refine k _ _ (hR2.same s3) ((f1.trans f2).trans (FrB.same s3)) ?_
              show VR K H3 (.int (RWire.intOf (RWire.numOf (r1.take 8)))) x
              rw [e1]; exact v3
            · rw [if_neg (fun z => c (decide_eq_true z))] at e1
              refine ⟨_, rfl, _, rfl, fun H3 x s3 v3 => ?_⟩
              refine k _ _ (hR2.same s3) ((f1.trans f2).trans (FrB.same s3)) ?_
              show VR K H3 (.int (RWire.intOf (RWire.numOf (r1.take 8)))) x
              rw [e1]; exact v3
          · cases hd
      · -- great integers: none
        unfold RWire.readBig at hd
        exfalso
        cases r1 with
        | nil => cases hd
        | cons s r1 =>
          simp only at hd
          cases e : RWire.readNum 4 r1 with
          | none => rw [e] at hd; cases hd
          | some p =>
            rw [e] at hd
            simp only at hd
            cases e3 : RWire.front p.1 p.2 with
            | none => rw [e3] at hd; cases hd
            | some q =>
              rw [e3] at hd
              simp only at hd
              cases e5 : RWire.bigOf s q.1 with
              | none => rw [e5] at hd; cases hd
              | some z =>
                rw [e5] at hd
                cases hd
                have := hp.b
                simp [RWire.noBig] at this
      · -- a text
        unfold RWire.readWords at hd
        cases e : RWire.readText r1 with
        | none => rw [e] at hd; cases hd
        | some p =>
          rw [e] at hd
          cases hd
          refine ⟨_, rfl, rfl, _, rfl, if_no rfl ?_⟩
          refine ⟨_, rfl, rfl, _, rfl, if_yes rfl ?_⟩
          refine ⟨_, rfl, a, dx1, _, rfl, ha1, nP _ _, a, L, bs, r1, p.1, p.2, rfl, hR1, e, fun H2 q hR2 f2 h2 => ⟨two_le, fun t ht => ?_⟩⟩
          refine k _ _ (hR2.same (Same.new ht)) ((f1.trans f2).trans (FrB.same (Same.new ht))) ?_
          unfold VR
          exact ⟨t, q, rfl, .of upd_same, .of (by rw [upd_ne (ne_of_none h2 ht)]; exact h2)⟩
      · -- a list
        unfold RWire.readList at hd
        cases e : RWire.readNum 4 r1 with
        | none => rw [e] at hd; cases hd
        | some p =>
          rw [e] at hd
          obtain ⟨h1, h2⟩ := readNum_is e
          simp only at hd
          cases e3 : RWire.readMany (RWire.readF n) p.1 p.2 with
          | none => rw [e3] at hd; cases hd
          | some q =>
            rw [e3] at hd
            cases hd
            subst h2
            obtain ⟨g0, rs, g1, g2, g3⟩ := readMany_is e3
            have g4 := many_shrink (readF_shrink n) g3 _ (Nat.le_refl _)
            have hl1 := hR1.len
            simp only at g0 g1 g2 g3 g4
            generalize hm : RWire.numOf (r1.take 4) = m at *
            have hm2 : m ≤ 100000 := by
              rw [g1] at g4
              simp only [List.length_drop] at g4
              omega
            refine ⟨_, rfl, rfl, _, rfl, if_no rfl ?_⟩
            refine ⟨_, rfl, rfl, _, rfl, if_no rfl ?_⟩
            refine ⟨_, rfl, _, _, rfl, rfl, _, rfl, if_no rfl ?_⟩
            refine ⟨_, rfl, rfl, _, rfl, if_no rfl ?_⟩
            refine ⟨Nat.zero_le _, fun t ht => ?_⟩
            have hR2 := hR1.same (Same.new (o := .lst []) ht)
            have ha2 := Same.new (o := .lst []) ht _ _ ha1
            have nta : t ≠ a := fun z => by rw [z] at ht; rw [ht] at ha1; cases ha1
            have ht0 : H t = none := f1.free ht nta
            refine ⟨_, rfl, a, dx1, _, rfl, ha2, nN _ _, a, L, 4, bs, r1, rfl, hR2, h1, fun H3 hR3 f3 => ?_⟩
            refine ⟨(m : Int), by rw [hm], by omega, by omega, for_range (n := m) (lo := 0) (fun i σ H' => ∃ (v4 v5 : Option V) (xs : List V), σ = [some (.ref a), some (.int 7), none, some (.ref t), v4, v5] ∧ ReqAt K A.c_R H' a L bs (rs i) ∧ FrB a H H' ∧ H' t = some (.lst xs) ∧ VRs K H' (q.1.take i) xs)
              ⟨none, none, [], rfl, by rw [g1]; exact hR3, f1.trans ((FrB.same (Same.new ht)).trans f3), f3 _ _ upd_same nta, by rw [List.take_zero]; unfold VRs; rfl⟩ ?_ ?_⟩
            · rintro i σ H' hi ⟨v4, v5, xs, rfl, hR4, f4, h4, r4⟩
              obtain ⟨v, gv, gf⟩ := g3 i hi
              obtain ⟨dx4, i4, ha4⟩ := hR4.ins
              refine ⟨_, rfl, rfl, _, rfl, if_no rfl ?_⟩
              refine ⟨_, rfl, .inl ⟨rfl, _, SqL.of h4⟩, ?_⟩
              refine ⟨_, rfl, a, dx4, _, rfl, ha4, nV _ _, a, L, bs, rs i, v, rs (i + 1), rfl, hR4, gf, hp.list.get gv, fun H5 x hR5 f5 v5' => ?_⟩
              have h5 := f5 _ _ h4 nta
              have ts5 : TSt K H5 (upd H5 t (.lst (xs ++ [x]))) := TSt.upd h5 trivial
              have hlx : xs.length = i := by rw [r4.length, List.length_take]; omega
              have f6 : FrB a H (upd H5 t (.lst (xs ++ [x]))) := fun b o hb nb => by
                rw [upd_ne (fun z => by rw [z, ht0] at hb; cases hb)]
                exact (f4.trans f5) b o hb nb
              refine ⟨t, xs, x, rfl, rfl, h5, sz_lt' (by omega), ?_⟩
              refine ⟨some (.int (0 + (i : Int))), v5, xs ++ [x], rfl, hR5.mv (upd_ne nta.symm) (hR.seq f6), f6, upd_same, ?_⟩
              rw [take_snoc gv]
              refine VRs.app (VRs.tst ((hR4.tst f5).trans ts5) _ _ r4) ?_
              unfold VRs
              refine ⟨x, [], rfl, VR.tst ts5 _ _ v5', ?_⟩
              unfold VRs; rfl
            · rintro σ H' ⟨v4, v5, xs, rfl, hR4, f4, h4, r4⟩
              refine ⟨_, rfl, _, rfl, t, xs, rfl, .inl ⟨.of h4, fun p1 hp1 => ⟨two_le, fun p2 hp2 => ?_⟩⟩⟩
              have s5 := (Same.new (o := .tup xs) hp1).trans (Same.new (o := .tup [.int 7, .ref p1]) hp2)
              rw [← g2] at k
              refine k _ _ (hR4.same s5) (f4.trans (FrB.same s5)) ?_
              unfold VR
              refine ⟨p2, p1, xs, rfl, .of upd_same, .of (by rw [upd_ne (ne_of_none upd_same hp2), upd_same]), ?_⟩
              rw [List.take_of_length_le (by omega)] at r4
              exact VRs.tst s5.tst _ _ r4
      · -- a record
        unfold RWire.readRecord at hd
        cases e : RWire.readNum 4 r1 with
        | none => rw [e] at hd; cases hd
        | some p =>
          rw [e] at hd
          obtain ⟨h1, h2⟩ := readNum_is e
          simp only at hd
          cases e3 : RWire.readMany (RWire.readEntry (RWire.readF n)) p.1 p.2 with
          | none => rw [e3] at hd; cases hd
          | some q =>
            rw [e3] at hd
            simp only at hd
            split at hd
            · cases hd
              subst h2
              obtain ⟨g0, rs, g1, g2, g3⟩ := readMany_is e3
              have ihE : ∀ r (v : RWire.Text × RWire.Value) r', RWire.readEntry (RWire.readF n) r = some (v, r') → ∃ m, RWire.readText r = some (v.1, m) ∧ RWire.readF n m = some (v.2, r') := fun r v r' h => by
                unfold RWire.readEntry at h
                cases e : RWire.readText r with
                | none => rw [e] at h; cases h
                | some p =>
                  rw [e] at h
                  simp only at h
                  cases e4 : RWire.readF n p.2 with
                  | none => rw [e4] at h; cases h
                  | some q =>
                    rw [e4] at h
                    cases h
                    exact ⟨p.2, rfl, e4⟩
              have g4 := many_shrink (fun r v r' h => by
                obtain ⟨m, a1, a2⟩ := ihE r v r' h
                have b1 := readText_le a1
                have b2 := readF_shrink n _ _ _ a2
                simp only at b1
                omega) g3 _ (Nat.le_refl _)
              have hl1 := hR1.len
              simp only at g0 g1 g2 g3 g4
              generalize hm : RWire.numOf (r1.take 4) = m at *
              have hm2 : m ≤ 100000 := by
                rw [g1] at g4
                simp only [List.length_drop] at g4
                omega
              refine ⟨_, rfl, rfl, _, rfl, if_no rfl ?_⟩
              refine ⟨_, rfl, rfl, _, rfl, if_no rfl ?_⟩
              refine ⟨_, rfl, _, _, rfl, rfl, _, rfl, if_no rfl ?_⟩
              refine ⟨_, rfl, rfl, _, rfl, if_no rfl ?_⟩
              refine ⟨Nat.zero_le _, fun t ht => ?_⟩
              have hR2 := hR1.same (Same.new (o := .lst []) ht)
              have ha2 := Same.new (o := .lst []) ht _ _ ha1
              have nta : t ≠ a := fun z => by rw [z] at ht; rw [ht] at ha1; cases ha1
              have ht0 : H t = none := f1.free ht nta
              refine ⟨_, rfl, a, dx1, _, rfl, ha2, nN _ _, a, L, 4, bs, r1, rfl, hR2, h1, fun H3 hR3 f3 => ?_⟩
              refine ⟨(m : Int), by rw [hm], by omega, by omega, for_range (n := m) (lo := 0) (fun i σ H' => ∃ (v4 v5 : Option V) (xs : List V), σ = [some (.ref a), some (.int 8), none, some (.ref t), v4, v5] ∧ ReqAt K A.c_R H' a L bs (rs i) ∧ FrB a H H' ∧ H' t = some (.lst xs) ∧ VRe K H' (q.1.take i) xs)
                ⟨none, none, [], rfl, by rw [g1]; exact hR3, f1.trans ((FrB.same (Same.new ht)).trans f3), f3 _ _ upd_same nta, by rw [List.take_zero]; unfold VRe; rfl⟩ ?_ ?_⟩
              · rintro i σ H' hi ⟨v4, v5, xs, rfl, hR4, f4, h4, r4⟩
                obtain ⟨v, gv, gf⟩ := g3 i hi
                obtain ⟨mid, gf1, gf2⟩ := ihE _ _ _ gf
                obtain ⟨dx4, i4, ha4⟩ := hR4.ins
                refine ⟨_, rfl, rfl, _, rfl, if_yes rfl ?_⟩
                refine ⟨_, rfl, a, dx4, _, rfl, ha4, nP _ _, a, L, bs, rs i, v.1, mid, rfl, hR4, gf1, fun H5 nm hR5 f5 h5n => ?_⟩
                have h5 := f5 _ _ h4 nta
                obtain ⟨dx5, i5, ha5⟩ := hR5.ins
                refine ⟨_, rfl, .inl ⟨rfl, _, SqL.of h5⟩, _, rfl, ?_⟩
                refine ⟨_, rfl, a, dx5, _, rfl, ha5, nV _ _, a, L, bs, mid, v.2, rs (i + 1), rfl, hR5, gf2, hp.ents gv, fun H6 x hR6 f6 v6 => ⟨two_le, fun tt htt => ?_⟩⟩
                have h6 := f6 _ _ h5 nta
                have h7 := Same.new (o := .tup [.ref nm, x]) htt _ _ h6
                have ts7 : TSt K H6 (upd (upd H6 tt (.tup [.ref nm, x])) t (.lst (xs ++ [.ref tt]))) := (Same.new htt).tst.trans (TSt.upd h7 trivial)
                have hlx : xs.length = i := by rw [r4.length, List.length_take]; omega
                have ntt : tt ≠ t := (ne_of_none h6 htt).symm
                have f8 : FrB a H (upd (upd H6 tt (.tup [.ref nm, x])) t (.lst (xs ++ [.ref tt]))) := fun b o hb nb => by
                  have q1 := (f4.trans (f5.trans f6)) b o hb nb
                  rw [upd_ne (fun z => by rw [z, ht0] at hb; cases hb), upd_ne (ne_of_none q1 htt)]
                  exact q1
                refine ⟨t, xs, .ref tt, rfl, rfl, h7, sz_lt' (by omega), ?_⟩
                obtain ⟨dx6, i6, ha6⟩ := hR6.ins
                refine ⟨some (.int (0 + (i : Int))), some (.ref nm), xs ++ [.ref tt], rfl, hR6.mv (by rw [upd_ne nta.symm, upd_ne (ne_of_none ha6 htt)]) (hR.seq f8), f8, upd_same, ?_⟩
                rw [take_snoc gv]
                refine VRe.app (VRe.tst ((hR4.tst (f5.trans f6)).trans ts7) _ _ r4) ?_
                unfold VRe
                refine ⟨tt, nm, x, [], rfl, .of (by rw [upd_ne ntt, upd_same]), ts7 _ _ ((hR5.tst f6) _ _ (.of h5n)), VR.tst ts7 _ _ v6, ?_⟩
                unfold VRe; rfl
              · rintro σ H' ⟨v4, v5, xs, rfl, hR4, f4, h4, r4⟩
                refine ⟨_, rfl, _, rfl, t, xs, rfl, .inl ⟨.of h4, fun p1 hp1 => ⟨two_le, fun p2 hp2 => ?_⟩⟩⟩
                have s5 := (Same.new (o := .tup xs) hp1).trans (Same.new (o := .tup [.int 8, .ref p1]) hp2)
                rw [← g2] at k
                refine k _ _ (hR4.same s5) (f4.trans (FrB.same s5)) ?_
                unfold VR
                refine ⟨p2, p1, xs, rfl, .of upd_same, .of (by rw [upd_ne (ne_of_none upd_same hp2), upd_same]), ?_⟩
                rw [List.take_of_length_le (by omega)] at r4
                exact VRe.tst s5.tst _ _ r4
            · cases hd
      · -- octets: none
        unfold RWire.readOctets at hd
        exfalso
        cases e : RWire.readText r1 with
        | none => rw [e] at hd; cases hd
        | some p =>
          rw [e] at hd
          cases hd
          have := hp.o
          simp [RWire.noOctets] at this
      · -- wide texts: none
        unfold RWire.readWide at hd
        exfalso
        cases e : RWire.readNum 4 r1 with
        | none => rw [e] at hd; cases hd
        | some p =>
          rw [e] at hd
          simp only at hd
          cases e3 : RWire.readSigns p.1 p.2 with
          | none => rw [e3] at hd; cases hd
          | some q =>
            rw [e3] at hd
            simp only at hd
            split at hd
            · cases hd
              have := hp.w
              simp [RWire.noWide] at this
            · cases hd
      · cases hd
end
end Rl
end
section
set_option Elab.async false
set_option linter.all false
set_option maxRecDepth 100000
set_option maxHeartbeats 4000000
/-! RlReq3: a whole request. -/
namespace Rl
open PySem PySem.Spec PyProof.Rows L2

def spWhole (K : PySem.W.Frag) (C : Addr) : Sp := fun vs H Q _ => ∃ (a L : Addr) (bs r : List UInt8) (d : Nat) (l : List RWire.Value), vs = [.ref a] ∧ ReqAt K C H a L bs r ∧ RWire.readRequest r = some (d, l) ∧ PlMany l ∧
  ∀ H' t g xs, H' t = some (.tup [.int d, .ref g]) → H' g = some (.lst xs) → H g = none → VRs K H' l xs → FrB a H H' → Q (.ref t) H'

section
variable {P : Program} {w : World} {K : PySem.W.Frag} {mg : Str → Option Value} {base : Heap} {A : Adr}
theorem ok_R_whole (T : Txt K mg A) : Ok P w K mg base CX0 36 A.f_R_whole p_R_whole (spWhole K A.c_R) := by
  have Gn := ok_R_number (P := P) (w := w) (base := base) T
  have Gv := ok_R_value (P := P) (w := w) (base := base) T 32
  refine ok_of T.F_R_whole sc_R_whole (fun vs H Q E h => ?_) (fun cdv A' outer s H vs Q E hr h => ?_)
  · obtain ⟨a, L, bs, r, d, l, rfl, _⟩ := h
    rfl
  · obtain ⟨a, L, bs, r, d, l, rfl, hR, hd, hp, k⟩ := h
    refine ⟨_, pss_cons (ps_set (i := 1) sc_R_whole.nd rfl (Or.inl rfl) (fn_meth Gn T.cl_R T.m_R_number hr (pv 0) (pa_cons pe_int pa_nil)))
      (pss_one (ps_ret (pe_tup (pa_cons (pv 1) (pa_cons (pe_lc (own := [("turn", 2)]) (g := gName 2) (by rfl) sc_R_whole.nd (pi_range1 rfl T.b_range (pa_cons (fn_meth Gn T.cl_R T.m_R_number hr (pv 0) (pa_cons pe_int pa_nil)) pa_nil)) (blkOk_by (own := [("turn", 2)]) (N := n_R_whole) (sc := defScope s_R_whole) (by decide +kernel)) (fun _ _ _ _ _ => pg_name (i := 2) sc_R_whole.nd rfl (Or.inl rfl)) (fun _ _ _ _ _ => pts_nil)
        (fun _ _ _ _ _ => fn_meth0 Gv T.cl_R T.m_R_value hr (pv 0))) pa_nil))))), ?_⟩
    match r, hd with
    | x0 :: x1 :: x2 :: r3, hd =>
    have hd : (match RWire.readArgs x2.toNat r3 with | none => none | some l => some (x0.toNat + 256 * x1.toNat, l)) = some (d, l) := hd
    cases e : RWire.readArgs x2.toNat r3 with
    | none => rw [e] at hd; cases hd
    | some l2 =>
      rw [e] at hd
      cases hd
      unfold RWire.readArgs at e
      split at e
      · rename_i l3 e3
        cases e
        obtain ⟨g0, rs, g1, g2, g3⟩ := readMany_is e3
        obtain ⟨dx0, i0, ha0⟩ := hR.ins
        have nN : ∀ (L : Addr) (i : Int), (reqF L i).lookup ("number" : Str) = none := fun L i => reqF_no (by decide +kernel) L i
        have nV : ∀ (L : Addr) (i : Int), (reqF L i).lookup ("value" : Str) = none := fun L i => reqF_no (by decide +kernel) L i
        refine ⟨_, rfl, a, dx0, _, rfl, ha0, nN _ _, a, L, 2, bs, _, rfl, hR, (by simp), fun H1 hR1 f1 => ?_⟩
        obtain ⟨dx1, i1, ha1⟩ := hR1.ins
        have hx2 := x2.toNat_lt
        refine ⟨_, rfl, _, rfl, a, dx1, _, rfl, ha1, nN _ _, a, L, 1, bs, _, rfl, hR1, (by simp), fun H2 hR2 f2 => ?_⟩
        have e1 : RWire.numOf ((List.drop 2 (x0 :: x1 :: x2 :: r3)).take 1) = x2.toNat := numOf_one x2 r3
        have hR2 : ReqAt K A.c_R H2 a L bs (rs 0) := by rw [g1]; exact hR2
        rw [e1]
        have e0 : RWire.numOf ((x0 :: x1 :: x2 :: r3).take 2) = x0.toNat + 256 * x1.toNat := by
          show x0.toNat + 256 * (x1.toNat + 256 * 0) = _
          omega
        rw [e0]
        refine ⟨(x2.toNat : Int), rfl, by omega, by omega, fun D hD => ?_⟩
        have hD0 : H D = none := by
          obtain ⟨dx2, i2, ha2⟩ := hR2.ins
          have nDa : D ≠ a := fun z => by rw [z] at hD; rw [hD] at ha2; cases ha2
          exact f1.free (f2.free hD nDa) nDa
        have nDa : D ≠ a := fun z => by rw [z, ha0] at hD0; cases hD0
        refine lc_range (n := x2.toNat) (lo := 0) (fun i H' => ReqAt K A.c_R H' a L bs (rs i) ∧ FrB a H H' ∧ ∃ xs, H' D = some (.lst xs) ∧ VRs K H' (l.take i) xs)
          ⟨hR2.same (Same.new hD), f1.trans (f2.trans (FrB.same (Same.new hD))), [], upd_same, by rw [List.take_zero]; unfold VRs; rfl⟩ ?_ ?_
        · rintro i H' hi ⟨hR4, f4, xs, h4, r4⟩
          obtain ⟨v, gv, gf⟩ := g3 i hi
          obtain ⟨dx4, i4, ha4⟩ := hR4.ins
          refine ⟨rfl, ?_⟩
          refine ⟨_, rfl, a, dx4, _, rfl, ha4, nV _ _, a, L, bs, rs i, v, rs (i + 1), rfl, hR4, gf, hp.get gv, fun H5 x hR5 f5 v5' => ?_⟩
          have h5 := f5 _ _ h4 nDa
          have ts5 : TSt K H5 (upd H5 D (.lst (xs ++ [x]))) := TSt.upd h5 trivial
          have hlx : xs.length = i := by rw [r4.length, List.length_take]; omega
          have f6 : FrB a H (upd H5 D (.lst (xs ++ [x]))) := fun b o hb nb => by
            rw [upd_ne (fun z => by rw [z, hD0] at hb; cases hb)]
            exact (f4.trans f5) b o hb nb
          refine ⟨xs, h5, sz_lt' (by omega), hR5.mv (upd_ne nDa.symm) (hR.seq f6), f6, xs ++ [x], upd_same, ?_⟩
          rw [take_snoc gv]
          refine VRs.app (VRs.tst ((hR4.tst f5).trans ts5) _ _ r4) ?_
          unfold VRs
          refine ⟨x, [], rfl, VR.tst ts5 _ _ v5', ?_⟩
          unfold VRs; rfl
        · rintro H' ⟨hR4, f4, xs, h4, r4⟩
          refine ⟨two_le, fun t ht => ?_⟩
          have s5 := Same.new (o := .tup [.int ((x0.toNat + 256 * x1.toNat : Nat) : Int), .ref D]) ht
          refine k _ t D xs upd_same (s5 _ _ h4) hD0 ?_ (f4.trans (FrB.same s5))
          rw [List.take_of_length_le (by omega)] at r4
          exact VRs.tst s5.tst _ _ r4
      · cases e
end
end Rl
end
section
set_option Elab.async false
set_option linter.all false
set_option maxRecDepth 100000
set_option maxHeartbeats 4000000
/-! RlLink: how an end, a link lies in the heap; what stands when something else changes. -/
namespace Rl
open PySem PySem.Spec PyProof.Rows L2
abbrev Pk := R7251g.Spec.Packet
abbrev Itm := R7251g.Spec.Item

/-! ### small things -/
def bI (b : Bool) : Int := if b then 1 else 0
def bN (b : Bool) : Nat := if b then 1 else 0
theorem bI_eq (b : Bool) : bI b = (bN b : Nat) := by cases b <;> rfl
theorem bI_not (b : Bool) : 1 - bI b = bI (!b) := by cases b <;> rfl
theorem at2 {f : Bool → V} (b : Bool) : atI [f false, f true] (bI b) = some (f b) := by
  rw [bI_eq]
  exact atI_nat (by cases b <;> rfl)
theorem ix2 {f : Bool → V} (b : Bool) : [f false, f true][bN b]? = some (f b) := by cases b <;> rfl
theorem ixN2 {f : Bool → V} (b : Bool) : ixN [f false, f true].length (bI b) = some (bN b) := by
  cases b
  · show ixN 2 0 = some 0
    unfold ixN
    rw [if_pos (by decide), if_pos (by decide)]; rfl
  · show ixN 2 1 = some 1
    unfold ixN
    rw [if_pos (by decide), if_pos (by decide)]; rfl
theorem set2 {f : Bool → V} (b : Bool) (x : V) : [f false, f true].set (bN b) x = [upB f b x false, upB f b x true] := by cases b <;> rfl
theorem upB_map {α β : Type} (g : α → β) (f : Bool → α) (b : Bool) (x : α) : upB (fun c => g (f c)) b (g x) = fun c => g (upB f b x c) := by
  funext c
  unfold upB
  split <;> rfl
theorem _root_.PySem.Paired.app {α β : Type} {F : α → β → Prop} : ∀ {l₁ m₁ : List α} {l₂ m₂ : List β}, Paired F l₁ l₂ → Paired F m₁ m₂ → Paired F (l₁ ++ m₁) (l₂ ++ m₂)
  | _, _, _, _, .nil, k => k
  | _, _, _, _, .cons r t, k => .cons r (PySem.Paired.app t k)
theorem _root_.PySem.Paired.getR {α β : Type} {F : α → β → Prop} : ∀ {l₁ : List α} {l₂ : List β} {i : Nat} {b : β}, Paired F l₁ l₂ → l₂[i]? = some b → ∃ a, l₁[i]? = some a ∧ F a b
  | _, _, i, b, .nil, h => by simp at h
  | _, _, 0, b, .cons r t, h => by cases h; exact ⟨_, rfl, r⟩
  | _, _, i + 1, b, .cons r t, h => PySem.Paired.getR (i := i) t h
theorem _root_.PySem.Paired.getL {α β : Type} {F : α → β → Prop} : ∀ {l₁ : List α} {l₂ : List β} {i : Nat} {a : α}, Paired F l₁ l₂ → l₁[i]? = some a → ∃ b, l₂[i]? = some b ∧ F a b
  | _, _, i, b, .nil, h => by simp at h
  | _, _, 0, b, .cons r t, h => by cases h; exact ⟨_, rfl, r⟩
  | _, _, i + 1, b, .cons r t, h => PySem.Paired.getL (i := i) t h
/-- o[i] of a list, for o[i] op= e -/
def rGetL (K : PySem.W.Frag) : V → V → Hp → VK → Prop := fun o i H Q => ∃ (p : Addr) (xs : List V) (j : Nat) (v : V), o = .ref p ∧ i = .int j ∧ j < 1000 ∧ SqL K H p xs ∧ xs[j]? = some v ∧ Q v H
theorem get_list {X : Cx} : PGet X (rGetL X.K) := by
  intro pins s σ H o i ov iv Q I ro ri h
  obtain ⟨p, xs, j, v, rfl, rfl, hj, hq, hv, q⟩ := h
  cases ro
  obtain ⟨t, rfl⟩ := ri
  obtain ⟨its, r, pl, hz⟩ := I.list hq
  obtain ⟨u, hu, ru⟩ := r.get hv
  exact wpAny_getItem_list pl.isList (by omega) (by omega) (by simpa using hu) ⟨v, H, I, ru, q⟩

/-! ### packets, items -/
def PkAt (K : PySem.W.Frag) (H : Hp) (p : Pk) (v : V) : Prop := ∃ a, v = .ref a ∧ SqT K H a [.int p.value, .bl p.more]
abbrev PkAll (K : PySem.W.Frag) (H : Hp) : List Pk → List V → Prop := Paired (PkAt K H)
def kindS : Itm → Str
  | .data u _ => if u then "urgent" else "data"
  | .credit u => if u then "urgent credit" else "credit"
  | .reset => "reset"
  | .confirm => "confirm"
def itV (K : PySem.W.Frag) (H : Hp) (y : V) : Itm → Prop
  | .data _ p => PkAt K H p y
  | _ => y = .non
def ItAt (K : PySem.W.Frag) (H : Hp) (i : Itm) (v : V) : Prop := ∃ a y, v = .ref a ∧ SqT K H a [.str (kindS i), y] ∧ itV K H y i
abbrev ItAll (K : PySem.W.Frag) (H : Hp) : List Itm → List V → Prop := Paired (ItAt K H)
section
variable {K : PySem.W.Frag} {H H' : Hp}
theorem PkAt.tst (t : TSt K H H') {p : Pk} {v : V} (h : PkAt K H p v) : PkAt K H' p v := by
  obtain ⟨a, e, q⟩ := h
  exact ⟨a, e, t _ _ q⟩
theorem PkAll.tst (t : TSt K H H') {p : List Pk} {v : List V} (h : PkAll K H p v) : PkAll K H' p v := h.mono (fun _ _ z => PkAt.tst t z)
theorem itV.tst (t : TSt K H H') {i : Itm} {y : V} (h : itV K H y i) : itV K H' y i := by
  cases i with
  | data u p => exact PkAt.tst t h
  | _ => exact h
theorem ItAt.tst (t : TSt K H H') {i : Itm} {v : V} (h : ItAt K H i v) : ItAt K H' i v := by
  obtain ⟨a, y, e, q, r⟩ := h
  exact ⟨a, y, e, t _ _ q, r.tst t⟩
theorem ItAll.tst (t : TSt K H H') {p : List Itm} {v : List V} (h : ItAll K H p v) : ItAll K H' p v := h.mono (fun _ _ z => ItAt.tst t z)
end

/-! ### what stands while other things change -/
structure Mv (K : PySem.W.Frag) (R : Pth × Rol → Prop) (ρ ρ' : Gh) (H H' : Hp) : Prop where
  c : ∀ x a o, R x → Cel ρ H x a o → Cel ρ' H' x a o
  t : TSt K H H'
section
variable {K : PySem.W.Frag} {R S : Pth × Rol → Prop} {ρ ρ' ρ'' : Gh} {H H' H'' : Hp} {p : Addr} {o : HO} {x : Pth × Rol}
theorem Mv.refl : Mv K R ρ ρ H H := ⟨fun _ _ _ _ c => c, TSt.refl H⟩
theorem Mv.trans (a : Mv K R ρ ρ' H H') (b : Mv K R ρ' ρ'' H' H'') : Mv K R ρ ρ'' H H'' := ⟨fun x d o r c => b.c x d o r (a.c x d o r c), a.t.trans b.t⟩
theorem Mv.mono {R' : Pth × Rol → Prop} (a : Mv K R ρ ρ' H H') (h : ∀ x, R' x → R x) : Mv K R' ρ ρ' H H' := ⟨fun x d o r c => a.c x d o (h x r) c, a.t⟩
theorem Mv.stp (s : Stp S ρ ρ' H H') (h : ∀ x, R x → ¬ S x) : Mv K R ρ ρ' H H' := ⟨fun x _ _ r c => c.stp s (h x r), s.tst⟩
theorem Mv.same (t : Trk ρ H) (e : Same H H') : Mv K R ρ ρ H H' := ⟨fun _ _ _ _ c => ⟨c.r, e _ _ c.h⟩, e.tst⟩
theorem Mv.new (h : H p = none) : Mv K R ρ ρ H (upd H p o) := ⟨fun _ _ _ _ c => c.new h, (Same.new h).tst⟩
theorem Mv.cell (t : Trk ρ H) (h : H p = none) : Mv K R ρ (gset ρ p x) H (upd H p o) := ⟨fun y a u _ c => ⟨by rw [gset_ne (ne_of_none c.h h)]; exact c.r, (c.new h).h⟩, (Same.new h).tst⟩
theorem Mv.wr {y : Pth × Rol} {u : HO} (h : ρ p = some y) (hp : H p = some u) (r : Rolled u) (n : ¬ R y) : Mv K R ρ ρ H (upd H p o) := ⟨fun x a v r c => c.wr h (fun e => n (e ▸ r)), TSt.upd hp r⟩
/-- a rolled object of no role is written -/
theorem Mv.out {u : HO} (h : ρ p = none) (hp : H p = some u) (r : Rolled u) : Mv K R ρ ρ H (upd H p o) := ⟨fun x a v _ c => ⟨c.r, by rw [upd_ne (fun z => by have q := c.r; rw [z, h] at q; cases q)]; exact c.h⟩, TSt.upd hp r⟩
/-- an object of no role gets one -/
theorem Mv.give (h : ρ p = none) : Mv K R ρ (gset ρ p x) H H := ⟨fun y a u _ c => ⟨by rw [gset_ne (fun z => by have q := c.r; rw [z, h] at q; cases q)]; exact c.r, c.h⟩, TSt.refl H⟩
theorem Stp.give (s : Stp S ρ ρ' H H') (h0 : H p = none) (h : ρ' p = none) (hp : H' p = some o) (r : Rolled o) : Stp S ρ (gset ρ' p x) H H' where
  t0 := s.t0
  ext := fun b y e => by
    have q := s.ext b y e
    rw [gset_ne (fun z => by rw [z, h] at q; cases q)]; exact q
  nw := fun b y e => by
    by_cases hb : b = p
    · exact .inr (by rw [hb]; exact h0)
    · rw [gset_ne hb] at e; exact s.nw b y e
  trk := fun b y e => by
    by_cases hb : b = p
    · rw [hb]; exact r.or hp
    · rw [gset_ne hb] at e; exact s.trk b y e
  fr := s.fr
end

/-! ### an end -/
def ofE (s : Bool) : Rol → Bool
  | .eobj t => t == s
  | .cnt t => t == s
  | .inbs t => t == s
  | .inn t _ => t == s
  | .hist t _ => t == s
  | .rows t _ _ => t == s
  | .row t _ _ _ => t == s
  | _ => false
def eS (π : Pth) (s : Bool) : Pth × Rol → Prop := fun x => x.1 = π ∧ ofE s x.2 = true
def lS (π : Pth) : Pth × Rol → Prop := fun x => x.1 = π
theorem eS_lS {π : Pth} {s : Bool} : ∀ x, eS π s x → lS π x := fun _ h => h.1
theorem eS_ne {π : Pth} {s t : Bool} (h : s ≠ t) : ∀ x, eS π s x → ¬ eS π t x := fun x h1 h2 => by
  obtain ⟨π', r⟩ := x
  have a : ofE s r = true := h1.2
  have b : ofE t r = true := h2.2
  cases r <;> simp only [ofE, beq_iff_eq, Bool.false_eq_true] at a b <;> exact h (a.symm.trans b)
def nsE : List Str := ["waits", "counts", "inboxes", "resets", "sent", "got"]
theorem ndE : nsE.Nodup := by decide +kernel
def endF (w : Bool) (ac ai : Addr) (n : Int) (a0 a1 : Addr) : List (Str × V) := nsE.zip [.bl w, .ref ac, .ref ai, .int n, .ref a0, .ref a1]
/-- the addresses of an end's cells -/
structure EA where
  dx : Addr
  ac : Addr
  ai : Addr
  aI : Bool → Addr
  ah : Bool → Addr
  aR : Bool → Bool → Addr
  aW : Bool → Bool → List Addr
def CelP (K : PySem.W.Frag) (ρ : Gh) (H : Hp) (x : Pth × Rol) (a : Addr) (l : List Pk) : Prop := ∃ vs, PkAll K H l vs ∧ Cel ρ H x a (.lst vs)
structure InbIs (K : PySem.W.Frag) (ρ : Gh) (H : Hp) (π : Pth) (s : Bool) (ai : Addr) (aI : Bool → Addr) (inn : Bool → List Pk) : Prop where
  l : Cel ρ H (π, .inbs s) ai (.lst [.ref (aI false), .ref (aI true)])
  b : ∀ k, CelP K ρ H (π, .inn s k) (aI k) (inn k)
structure HstIs (K : PySem.W.Frag) (ρ : Gh) (H : Hp) (π : Pth) (s g : Bool) (ah : Addr) (aR : Bool → Addr) (aW : Bool → List Addr) (hist : Bool → List (List Pk)) : Prop where
  l : Cel ρ H (π, .hist s g) ah (.lst [.ref (aR false), .ref (aR true)])
  r : ∀ k, Cel ρ H (π, .rows s g k) (aR k) (.lst ((aW k).map V.ref))
  n : ∀ k, (aW k).length = (hist k).length
  w : ∀ (k : Bool) (i : Nat) (a : Addr) (l : List Pk), (aW k)[i]? = some a → (hist k)[i]? = some l → CelP K ρ H (π, .row s g k i) a l
structure EndIs (K : PySem.W.Frag) (C : Addr) (ρ : Gh) (H : Hp) (π : Pth) (s : Bool) (a : Addr) (e : ME) (x : EA) : Prop where
  o : Cel ρ H (π, .eobj s) a (.ins C x.dx (endF e.waits x.ac x.ai e.resets (x.ah false) (x.ah true)))
  c : Cel ρ H (π, .cnt s) x.ac (.lst [.int (e.cnt false), .int (e.cnt true)])
  i : InbIs K ρ H π s x.ai x.aI e.inn
  h : ∀ g, HstIs K ρ H π s g (x.ah g) (x.aR g) (x.aW g) (e.hist g)
section
variable {K : PySem.W.Frag} {R : Pth × Rol → Prop} {ρ ρ' : Gh} {H H' : Hp} {x : Pth × Rol} {a C : Addr} {l : List Pk} {π : Pth} {s g : Bool} {ai ah : Addr} {aI aR : Bool → Addr} {aW : Bool → List Addr} {inn : Bool → List Pk} {hist : Bool → List (List Pk)} {e : ME} {z : EA}
theorem CelP.mv (m : Mv K R ρ ρ' H H') (h : R x) (c : CelP K ρ H x a l) : CelP K ρ' H' x a l := by
  obtain ⟨vs, p, q⟩ := c
  exact ⟨vs, p.tst m.t, m.c _ _ _ h q⟩
theorem InbIs.mv (m : Mv K R ρ ρ' H H') (h1 : R (π, .inbs s)) (h2 : ∀ k, R (π, .inn s k)) (c : InbIs K ρ H π s ai aI inn) : InbIs K ρ' H' π s ai aI inn := ⟨m.c _ _ _ h1 c.l, fun k => (c.b k).mv m (h2 k)⟩
theorem HstIs.mv (m : Mv K R ρ ρ' H H') (h1 : R (π, .hist s g)) (h2 : ∀ k, R (π, .rows s g k)) (h3 : ∀ k i, R (π, .row s g k i)) (c : HstIs K ρ H π s g ah aR aW hist) : HstIs K ρ' H' π s g ah aR aW hist :=
  ⟨m.c _ _ _ h1 c.l, fun k => m.c _ _ _ (h2 k) (c.r k), c.n, fun k i a l q1 q2 => (c.w k i a l q1 q2).mv m (h3 k i)⟩
theorem EndIs.mv (m : Mv K (eS π s) ρ ρ' H H') (c : EndIs K C ρ H π s a e z) : EndIs K C ρ' H' π s a e z :=
  ⟨m.c _ _ _ ⟨rfl, by simp [ofE]⟩ c.o, m.c _ _ _ ⟨rfl, by simp [ofE]⟩ c.c, c.i.mv m ⟨rfl, by simp [ofE]⟩ fun k => ⟨rfl, by simp [ofE]⟩,
    fun g => (c.h g).mv m ⟨rfl, by simp [ofE]⟩ (fun k => ⟨rfl, by simp [ofE]⟩) fun k i => ⟨rfl, by simp [ofE]⟩⟩
end
def EndAt (K : PySem.W.Frag) (C : Addr) (ρ : Gh) (H : Hp) (π : Pth) (s : Bool) (a : Addr) (e : ME) : Prop := ∃ x, EndIs K C ρ H π s a e x

/-! ### a link -/
def CelI (K : PySem.W.Frag) (ρ : Gh) (H : Hp) (x : Pth × Rol) (a : Addr) (l : List Itm) : Prop := ∃ vs, ItAll K H l vs ∧ Cel ρ H x a (.lst vs)
theorem CelI.mv {K : PySem.W.Frag} {R : Pth × Rol → Prop} {ρ ρ' : Gh} {H H' : Hp} {x : Pth × Rol} {a : Addr} {l : List Itm} (m : Mv K R ρ ρ' H H') (h : R x) (c : CelI K ρ H x a l) : CelI K ρ' H' x a l := by
  obtain ⟨vs, p, q⟩ := c
  exact ⟨vs, p.tst m.t, m.c _ _ _ h q⟩
def nsL : List Str := ["ends", "queues"]
theorem ndL : nsL.Nodup := by decide +kernel
def linkF (ae aq : Addr) : List (Str × V) := nsL.zip [.ref ae, .ref aq]
structure LA where
  dx : Addr
  ae : Addr
  aq : Addr
  aE : Bool → Addr
  aQ : Bool → Addr
  ea : Bool → EA
structure LinkIs (K : PySem.W.Frag) (A : Adr) (ρ : Gh) (H : Hp) (π : Pth) (p : Addr) (m : ML) (x : LA) : Prop where
  o : Cel ρ H (π, .obj) p (.ins A.c_L x.dx (linkF x.ae x.aq))
  en : Cel ρ H (π, .ends) x.ae (.lst [.ref (x.aE false), .ref (x.aE true)])
  qu : Cel ρ H (π, .ques) x.aq (.lst [.ref (x.aQ false), .ref (x.aQ true)])
  q : ∀ d, CelI K ρ H (π, .que d) (x.aQ d) (m.q d)
  e : ∀ s, EndIs K A.c_E ρ H π s (x.aE s) (m.e s) (x.ea s)
theorem LinkIs.mv {K : PySem.W.Frag} {A : Adr} {ρ ρ' : Gh} {H H' : Hp} {π : Pth} {p : Addr} {m : ML} {x : LA} (v : Mv K (lS π) ρ ρ' H H') (c : LinkIs K A ρ H π p m x) : LinkIs K A ρ' H' π p m x :=
  ⟨v.c _ _ _ rfl c.o, v.c _ _ _ rfl c.en, v.c _ _ _ rfl c.qu, fun d => (c.q d).mv v rfl, fun s => (c.e s).mv (v.mono eS_lS)⟩
theorem LinkIs.setE {K : PySem.W.Frag} {A : Adr} {ρ ρ' : Gh} {H H' : Hp} {π : Pth} {p : Addr} {m : ML} {x : LA} {s : Bool} {e' : ME} {z : EA} (c : LinkIs K A ρ H π p m x) (st : Stp (eS π s) ρ ρ' H H') (h : EndIs K A.c_E ρ' H' π s (x.aE s) e' z) :
    LinkIs K A ρ' H' π p (m.setE s e') { x with ea := upB x.ea s z } := by
  have v : Mv K (fun y => y.1 = π ∧ ofE s y.2 = false) ρ ρ' H H' := Mv.stp st (fun y h1 h2 => by
    have q := h2.2
    rw [h1.2] at q
    cases q)
  refine ⟨v.c _ _ _ ⟨rfl, rfl⟩ c.o, v.c _ _ _ ⟨rfl, rfl⟩ c.en, v.c _ _ _ ⟨rfl, rfl⟩ c.qu, fun d => (c.q d).mv v ⟨rfl, rfl⟩, fun t => ?_⟩
  by_cases ht : t = s
  · subst ht
    show EndIs K A.c_E ρ' H' π t (x.aE t) (upB m.e t e' t) (upB x.ea t z t)
    rw [upB_same, upB_same]
    exact h
  · show EndIs K A.c_E ρ' H' π t (x.aE t) (upB m.e s e' t) (upB x.ea s z t)
    rw [upB_ne ht, upB_ne ht]
    exact (c.e t).mv (Mv.stp st (eS_ne ht))
def LinkAt (K : PySem.W.Frag) (A : Adr) (ρ : Gh) (H : Hp) (π : Pth) (p : Addr) (m : ML) : Prop := ∃ x, LinkIs K A ρ H π p m x
theorem LinkAt.mv {K : PySem.W.Frag} {A : Adr} {ρ ρ' : Gh} {H H' : Hp} {π : Pth} {p : Addr} {m : ML} (v : Mv K (lS π) ρ ρ' H H') (c : LinkAt K A ρ H π p m) : LinkAt K A ρ' H' π p m := by
  obtain ⟨x, c⟩ := c
  exact ⟨x, c.mv v⟩

/-- no list of a link is longer than n -/
structure Bd (n : Nat) (m : ML) : Prop where
  q : ∀ d, (m.q d).length ≤ n
  i : ∀ s k, ((m.e s).inn k).length ≤ n
  h : ∀ s g k, ((m.e s).hist g k).length ≤ n
  r : ∀ s g k, ∀ l ∈ (m.e s).hist g k, l.length ≤ n
  ne : ∀ s g k, (m.e s).hist g k ≠ []
structure EBd (n : Nat) (e : ME) : Prop where
  i : ∀ k, (e.inn k).length ≤ n
  h : ∀ g k, (e.hist g k).length ≤ n
  r : ∀ g k, ∀ l ∈ e.hist g k, l.length ≤ n
  ne : ∀ g k, e.hist g k ≠ []
theorem Bd.e {n : Nat} {m : ML} (b : Bd n m) (s : Bool) : EBd n (m.e s) := ⟨b.i s, b.h s, b.r s, b.ne s⟩
theorem Bd.of {n : Nat} {m : ML} (q : ∀ d, (m.q d).length ≤ n) (e : ∀ s, EBd n (m.e s)) : Bd n m := ⟨q, fun s => (e s).i, fun s => (e s).h, fun s => (e s).r, fun s => (e s).ne⟩
theorem EBd.mono {n k : Nat} {e : ME} (b : EBd n e) (h : n ≤ k) : EBd k e := ⟨fun j => Nat.le_trans (b.i j) h, fun g j => Nat.le_trans (b.h g j) h, fun g j l z => Nat.le_trans (b.r g j l z) h, b.ne⟩
theorem Bd.mono {n k : Nat} {m : ML} (b : Bd n m) (h : n ≤ k) : Bd k m := .of (fun d => Nat.le_trans (b.q d) h) fun s => (b.e s).mono h
end Rl
end
section
set_option Elab.async false
set_option linter.all false
set_option maxRecDepth 100000
set_option maxHeartbeats 4000000
/-! RlEnd: the methods of End. -/
namespace Rl
open PySem PySem.Spec PyProof.Rows L2

theorem fld_new {f : Str} {v : V} : ∀ {ns : List Str} {vs : List V}, f ∉ ns → vs.length = ns.length → putF f v (ns.zip vs) = (ns ++ [f]).zip (vs ++ [v])
  | [], [], _, _ => rfl
  | [], x :: vs, _, h => by simp at h
  | n :: ns, [], _, h => by simp at h
  | n :: ns, x :: vs, h, hl => by
    have hne : ¬ n = f := fun e => h (by rw [e]; exact List.mem_cons_self)
    show (if n = f then _ else (n, x) :: putF f v (ns.zip vs)) = _
    rw [if_neg hne, fld_new (fun z => h (List.mem_cons_of_mem _ z)) (by simpa using hl)]; rfl
theorem few_put {f : Str} {v : V} {fs : List (Str × V)} {n : Nat} (h : fs.length < n) : (putF f v fs).length < n + 1 := Nat.lt_of_le_of_lt (length_putF f v fs) (Nat.succ_lt_succ h)
theorem few0 : ([] : List (Str × V)).length < 1 := by decide
theorem few_le {m n : Nat} (h : m < n) (k : n ≤ 1000 := by decide) : m < 1000 := Nat.lt_of_lt_of_le h k

theorem seq_in {t u : TS} {D : Ends} {σ : L2.St} {H : Hp} (h : t { D with nx := u D } σ H) : tSeq t u D σ H := h
theorem fld_in {K : PySem.W.Frag} {ta tv : TE} {f : Str} {D : Ends} {σ : L2.St} {H : Hp}
    (h : tv σ H fun y H1 => ta σ H1 fun x H2 => ∃ a C dx fs, x = .ref a ∧ H2 a = some (.ins C dx fs) ∧ Cls K C ∧ NoAttr K C f ∧ fs.length < 1000 ∧ D.nx σ (upd H2 a (.ins C dx (putF f y fs)))) : sFld K ta tv f D σ H := h
section
variable {K : PySem.W.Frag} {ρ : Gh} {H : Hp} {σ : L2.St} {Q : VK}
/-- [[], []] -/
theorem two_disp (t : Trk ρ H) (x : Pth × Rol) (y : Bool → Pth × Rol)
    (k : ∀ (ρ' : Gh) (H' : Hp) (a : Addr) (b : Bool → Addr), Stp (fun _ => False) ρ ρ' H H' → Mv K (fun _ => True) ρ ρ' H H' → Cel ρ' H' x a (.lst [.ref (b false), .ref (b true)]) → (∀ c, Cel ρ' H' (y c) (b c) (.lst [])) → Q (.ref a) H') :
    tLst (tCons (tLst tNil) (tCons (tLst tNil) tNil)) σ H Q := by
  refine ⟨Nat.zero_le _, fun p0 h0 => ⟨Nat.zero_le _, fun p1 h1 => ⟨two_le, fun p2 h2 => ?_⟩⟩⟩
  have s0 : Stp (fun _ => False) ρ _ H _ := (Stp.refl t).cell (x := y false) (o := .lst []) h0 trivial
  have m0 : Mv K (fun _ => True) ρ _ H _ := Mv.cell (x := y false) (o := .lst []) t h0
  have c0 : Cel (gset ρ p0 (y false)) (upd H p0 (.lst [])) (y false) p0 (.lst []) := Cel.made
  have s1 := s0.cell (x := y true) (o := .lst []) h1 trivial
  have m1' : Mv K (fun _ => True) _ _ _ _ := Mv.cell (x := y true) (o := .lst []) s0.trk h1
  have m1 := m0.trans m1'
  have c1 : Cel (gset (gset ρ p0 (y false)) p1 (y true)) (upd (upd H p0 (.lst [])) p1 (.lst [])) (y true) p1 (.lst []) := Cel.made
  have s2 := s1.cell (x := x) (o := .lst [.ref p0, .ref p1]) h2 trivial
  have m2' : Mv K (fun _ => True) _ _ _ _ := Mv.cell (x := x) (o := .lst [.ref p0, .ref p1]) s1.trk h2
  refine k _ _ p2 (fun c => if c then p1 else p0) s2 (m1.trans m2') Cel.made fun c => ?_
  cases c with
  | true => exact m2'.c _ _ _ trivial c1
  | false => exact m2'.c _ _ _ trivial (m1'.c _ _ _ trivial c0)
/-- [[[]], [[]]] -/
theorem hist_disp (t : Trk ρ H) (π : Pth) (s g : Bool)
    (k : ∀ ρ' H' a aR aW, Stp (fun _ => False) ρ ρ' H H' → Mv K (fun _ => True) ρ ρ' H H' → HstIs K ρ' H' π s g a aR aW (fun _ => [[]]) → Q (.ref a) H') :
    tLst (tCons (tLst (tCons (tLst tNil) tNil)) (tCons (tLst (tCons (tLst tNil) tNil)) tNil)) σ H Q := by
  refine ⟨Nat.zero_le _, fun p0 h0 => ⟨(by show 1 ≤ sizeLine; decide), fun p1 h1 => ⟨Nat.zero_le _, fun p2 h2 => ⟨(by show 1 ≤ sizeLine; decide), fun p3 h3 => ⟨two_le, fun p4 h4 => ?_⟩⟩⟩⟩⟩
  have s0 : Stp (fun _ => False) ρ _ H _ := (Stp.refl t).cell (x := (π, .row s g false 0)) (o := .lst []) h0 trivial
  have m0 : Mv K (fun _ => True) ρ _ H _ := Mv.cell (x := (π, .row s g false 0)) (o := .lst []) t h0
  have c0 : Cel (gset ρ p0 (π, .row s g false 0)) (upd H p0 (.lst [])) (π, .row s g false 0) p0 (.lst []) := Cel.made
  have s1 := s0.cell (x := (π, .rows s g false)) (o := .lst [.ref p0]) h1 trivial
  have m1 : Mv K (fun _ => True) _ _ _ _ := Mv.cell (x := (π, .rows s g false)) (o := .lst [.ref p0]) s0.trk h1
  have c1 : Cel (gset (gset ρ p0 (π, .row s g false 0)) p1 (π, .rows s g false)) (upd (upd H p0 (.lst [])) p1 (.lst [.ref p0])) (π, .rows s g false) p1 (.lst [.ref p0]) := Cel.made
  have s2 := s1.cell (x := (π, .row s g true 0)) (o := .lst []) h2 trivial
  have m2 : Mv K (fun _ => True) _ _ _ _ := Mv.cell (x := (π, .row s g true 0)) (o := .lst []) s1.trk h2
  have c2 : Cel (gset (gset (gset ρ p0 (π, .row s g false 0)) p1 (π, .rows s g false)) p2 (π, .row s g true 0)) (upd (upd (upd H p0 (.lst [])) p1 (.lst [.ref p0])) p2 (.lst [])) (π, .row s g true 0) p2 (.lst []) := Cel.made
  have s3 := s2.cell (x := (π, .rows s g true)) (o := .lst [.ref p2]) h3 trivial
  have m3 : Mv K (fun _ => True) _ _ _ _ := Mv.cell (x := (π, .rows s g true)) (o := .lst [.ref p2]) s2.trk h3
  have c3 : Cel _ (upd _ p3 (.lst [.ref p2])) (π, .rows s g true) p3 (.lst [.ref p2]) := Cel.made (ρ := gset (gset (gset ρ p0 (π, .row s g false 0)) p1 (π, .rows s g false)) p2 (π, .row s g true 0)) (H := upd (upd (upd H p0 (.lst [])) p1 (.lst [.ref p0])) p2 (.lst []))
  have s4 := s3.cell (x := (π, .hist s g)) (o := .lst [.ref p1, .ref p3]) h4 trivial
  have m4 : Mv K (fun _ => True) _ _ _ _ := Mv.cell (x := (π, .hist s g)) (o := .lst [.ref p1, .ref p3]) s3.trk h4
  refine k _ _ p4 (fun c => if c then p3 else p1) (fun c => if c then [p2] else [p0]) s4 ((((m0.trans m1).trans m2).trans m3).trans m4) ⟨Cel.made, fun c => ?_, fun c => ?_, fun c i a l q1 q2 => ?_⟩
  · cases c with
    | true => exact m4.c _ _ _ trivial c3
    | false => exact (m2.trans (m3.trans m4)).c _ _ _ trivial c1
  · cases c <;> rfl
  · cases i with
    | succ j =>
      rw [show (([[]] : List (List Pk))[j + 1]?) = none from by simp] at q2
      cases q2
    | zero =>
      cases q2
      cases c with
      | true =>
        cases q1
        exact ⟨[], .nil, (m3.trans m4).c _ _ _ trivial c2⟩
      | false =>
        cases q1
        exact ⟨[], .nil, (m1.trans (m2.trans (m3.trans m4))).c _ _ _ trivial c0⟩
end

/-! ### promises -/
/-- an end is made: H0 is the heap without it -/
def spEinit (K : PySem.W.Frag) (C : Addr) : Sp := fun vs H Q _ => ∃ (H0 : Hp) (ρ : Gh) (π : Pth) (s : Bool) (a dx : Addr), vs = [.ref a] ∧ Same H0 H ∧ H0 a = none ∧ H a = some (.ins C dx []) ∧ Trk ρ H0 ∧
  ∀ ρ' H', Stp (fun _ => False) ρ ρ' H0 H' → EndAt K C ρ' H' π s a ME.fresh → Q .non H'
def spEclear (K : PySem.W.Frag) (C : Addr) : Sp := fun vs H Q _ => ∃ (ρ : Gh) (π : Pth) (s : Bool) (a : Addr) (e : ME), vs = [.ref a] ∧ Trk ρ H ∧ EndAt K C ρ H π s a e ∧ ∀ ρ' H', Stp (eS π s) ρ ρ' H H' → EndAt K C ρ' H' π s a e.clear → Q .non H'
def spEanew (K : PySem.W.Frag) (C : Addr) : Sp := fun vs H Q _ => ∃ (ρ : Gh) (π : Pth) (s : Bool) (a : Addr) (e : ME) (n : Nat), vs = [.ref a] ∧ Trk ρ H ∧ EndAt K C ρ H π s a e ∧ EBd n e ∧ n < 16000000 ∧ ∀ ρ' H', Stp (eS π s) ρ ρ' H H' → EndAt K C ρ' H' π s a e.anew → Q .non H'
def spEnote (K : PySem.W.Frag) (C : Addr) : Sp := fun vs H Q _ => ∃ (ρ : Gh) (π : Pth) (s g k : Bool) (a : Addr) (e : ME) (x : EA) (p : Pk) (y : V) (n : Nat), vs = [.ref a, .ref (x.ah g), .int (bI k), y] ∧ Trk ρ H ∧ EndIs K C ρ H π s a e x ∧ PkAt K H p y ∧ e.hist g k ≠ [] ∧ EBd n e ∧ n < 16000000 ∧
  ∀ H', Stp (eS π s) ρ ρ H H' → EndIs K C ρ H' π s a (e.note g k p) x → Q .non H'

section
variable {P : Program} {w : World} {K : PySem.W.Frag} {mg : Str → Option Value} {base : Heap} {A : Adr}
theorem endF_new {w : Bool} {ac ai a0 a1 : Addr} {n : Int} : putF "got" (.ref a1) (putF "sent" (.ref a0) (putF "resets" (.int n) (putF "inboxes" (.ref ai) (putF "counts" (.ref ac) (putF "waits" (.bl w) []))))) = endF w ac ai n a0 a1 := by
  have e1 : putF ("waits" : Str) (.bl w) [] = (["waits"] : List Str).zip [V.bl w] := rfl
  rw [e1, fld_new (by decide +kernel) rfl, fld_new (by decide +kernel) rfl, fld_new (by decide +kernel) rfl, fld_new (by decide +kernel) rfl, fld_new (by decide +kernel) rfl]
  rfl
theorem ok_E_init (T : Txt K mg A) : Ok P w K mg base CX0 1 A.f_E_init p_E_init (spEinit K A.c_E) := by
  refine ok_of T.F_E_init sc_E_init (fun vs H Q E h => ?_) (fun cdv A' outer s H vs Q E hr h => ?_)
  · obtain ⟨H0, ρ, π, s, a, dx, rfl, _⟩ := h
    rfl
  · obtain ⟨H0, ρ, π, s, a, dx, rfl, hs, h0, ha, ht, k⟩ := h
    refine ⟨_, pss_cons (ps_fld (pv 0) pe_bl rfl)
      (pss_cons (ps_fld (pv 0) (pe_lst (pa_cons pe_int (pa_cons pe_int pa_nil))) rfl)
      (pss_cons (ps_fld (pv 0) (pe_lst (pa_cons (pe_lst pa_nil) (pa_cons (pe_lst pa_nil) pa_nil))) rfl)
      (pss_cons (ps_fld (pv 0) pe_int rfl)
      (pss_cons (ps_fld (pv 0) (pe_lst (pa_cons (pe_lst (pa_cons (pe_lst pa_nil) pa_nil)) (pa_cons (pe_lst (pa_cons (pe_lst pa_nil) pa_nil)) pa_nil))) rfl)
      (pss_one (ps_fld (pv 0) (pe_lst (pa_cons (pe_lst (pa_cons (pe_lst pa_nil) pa_nil)) (pa_cons (pe_lst (pa_cons (pe_lst pa_nil) pa_nil)) pa_nil))) rfl)))))), ?_⟩
    have n0 : ρ a = none := ht.free h0
    have s0 : Stp (fun _ => False) ρ ρ H0 H := Stp.same ht hs
    refine ⟨_, rfl, a, _, dx, [], rfl, ha, T.cl_E, T.a_E_waits, (by decide), ?_⟩
    have s1 := s0.mut (o := .ins A.c_E dx (putF "waits" (.bl false) [])) h0 n0
    -- counts
    refine ⟨two_le, fun ac hac => ?_⟩
    have s2 := s1.cell (x := (π, .cnt s)) (o := .lst [.int 0, .int 0]) hac trivial
    have nac : a ≠ ac := ne_of_none upd_same hac
    have cc : Cel (gset ρ ac (π, .cnt s)) _ (π, .cnt s) ac (.lst [.int 0, .int 0]) := Cel.made (H := upd H a (.ins A.c_E dx (putF "waits" (.bl false) [])))
    have n2 : gset ρ ac (π, .cnt s) a = none := by rw [gset_ne nac]; exact n0
    have ha2 : (upd (upd H a (.ins A.c_E dx (putF "waits" (.bl false) []))) ac (.lst [.int 0, .int 0])) a = some (.ins A.c_E dx (putF "waits" (.bl false) [])) := by rw [upd_ne nac, upd_same]
    refine ⟨_, rfl, a, _, dx, _, rfl, ha2, T.cl_E, T.a_E_counts, few_le (few_put few0), ?_⟩
    have s3 := s2.mut (o := .ins A.c_E dx (putF "counts" (.ref ac) (putF "waits" (.bl false) []))) h0 n2
    have m3 : Mv K (fun _ => True) _ _ _ _ := Mv.out (o := .ins A.c_E dx (putF "counts" (.ref ac) (putF "waits" (.bl false) []))) n2 ha2 trivial
    have cc3 := m3.c _ _ _ trivial cc
    -- inboxes
    dsimp only
    refine seq_in ?_
    refine fld_in ?_
    refine two_disp (K := K) s3.trk (π, .inbs s) (fun c => (π, .inn s c)) fun ρ4 H4 ai aI s4 m4 ci cI => ?_
    have s34 := s3.trans s4
    have cc4 := m4.c _ _ _ trivial cc3
    have ha4 := s4.fr _ _ (upd_same (a := a)) (fun _ _ z => z)
    have n4 : ρ4 a = none := s4.role n2 upd_same
    refine ⟨_, rfl, a, _, dx, _, rfl, ha4, T.cl_E, T.a_E_inboxes, few_le (few_put (few_put few0)), ?_⟩
    have m5 : Mv K (fun _ => True) _ _ _ _ := Mv.out (o := .ins A.c_E dx (putF "inboxes" (.ref ai) (putF "counts" (.ref ac) (putF "waits" (.bl false) [])))) n4 ha4 trivial
    have s5 := s34.mut (o := .ins A.c_E dx (putF "inboxes" (.ref ai) (putF "counts" (.ref ac) (putF "waits" (.bl false) [])))) h0 n4
    have ib : InbIs K ρ4 _ π s ai aI (fun _ => []) := ⟨m5.c _ _ _ trivial ci, fun c => ⟨[], .nil, m5.c _ _ _ trivial (cI c)⟩⟩
    have cc5 := m5.c _ _ _ trivial cc4
    -- resets
    refine ⟨_, rfl, a, _, dx, _, rfl, upd_same, T.cl_E, T.a_E_resets, few_le (few_put (few_put (few_put few0))), ?_⟩
    have m6 : Mv K (fun _ => True) _ _ _ _ := Mv.out (o := .ins A.c_E dx (putF "resets" (.int 0) (putF "inboxes" (.ref ai) (putF "counts" (.ref ac) (putF "waits" (.bl false) []))))) n4 (upd_same (H := H4) (a := a) (o := .ins A.c_E dx (putF "inboxes" (.ref ai) (putF "counts" (.ref ac) (putF "waits" (.bl false) []))))) trivial
    have s6 := s5.mut (o := .ins A.c_E dx (putF "resets" (.int 0) (putF "inboxes" (.ref ai) (putF "counts" (.ref ac) (putF "waits" (.bl false) []))))) h0 n4
    -- sent
    dsimp only
    refine seq_in ?_
    refine fld_in ?_
    refine hist_disp (K := K) s6.trk π s false fun ρ7 H7 as aR0 aW0 s7 m7 hs7 => ?_
    have ha7 := s7.fr _ _ (upd_same (a := a)) (fun _ _ z => z)
    have n7 : ρ7 a = none := s7.role n4 upd_same
    refine ⟨_, rfl, a, _, dx, _, rfl, ha7, T.cl_E, T.a_E_sent, few_le (few_put (few_put (few_put (few_put few0)))), ?_⟩
    have m8 : Mv K (fun _ => True) _ _ _ _ := Mv.out (o := .ins A.c_E dx (putF "sent" (.ref as) (putF "resets" (.int 0) (putF "inboxes" (.ref ai) (putF "counts" (.ref ac) (putF "waits" (.bl false) [])))))) n7 ha7 trivial
    have s8 := (s6.trans s7).mut (o := .ins A.c_E dx (putF "sent" (.ref as) (putF "resets" (.int 0) (putF "inboxes" (.ref ai) (putF "counts" (.ref ac) (putF "waits" (.bl false) [])))))) h0 n7
    -- got
    dsimp only
    refine fld_in ?_
    refine hist_disp (K := K) s8.trk π s true fun ρ9 H9 ag aR1 aW1 s9 m9 hs9 => ?_
    have ha9 := s9.fr _ _ (upd_same (a := a)) (fun _ _ z => z)
    have n9 : ρ9 a = none := s9.role n7 upd_same
    refine ⟨_, rfl, a, _, dx, _, rfl, ha9, T.cl_E, T.a_E_got, few_le (few_put (few_put (few_put (few_put (few_put few0))))), ?_⟩
    rw [endF_new]
    have m10 : Mv K (fun _ => True) _ _ _ _ := Mv.out (o := .ins A.c_E dx (endF false ac ai 0 as ag)) n9 ha9 trivial
    have s10 := (s8.trans s9).mut (o := .ins A.c_E dx (endF false ac ai 0 as ag)) h0 n9
    have m11 : Mv K (fun _ => True) _ _ _ _ := Mv.give (x := (π, .eobj s)) (H := upd H9 a (.ins A.c_E dx (endF false ac ai 0 as ag))) n9
    have s11 := s10.give (x := (π, .eobj s)) h0 n9 upd_same trivial
    have mB := m10.trans m11
    have mA := (m7.trans m8).trans (m9.trans mB)
    refine k _ _ s11 ⟨⟨dx, ac, ai, aI, fun g => if g then ag else as, fun g => if g then aR1 else aR0, fun g => if g then aW1 else aW0⟩, ⟨gset_same, upd_same⟩, (m6.trans mA).c _ _ _ trivial cc5, (ib.mv (m6.trans mA) trivial fun _ => trivial), fun g => ?_⟩
    cases g with
    | true => exact hs9.mv mB trivial (fun _ => trivial) fun _ _ => trivial
    | false => exact hs7.mv (m8.trans (m9.trans mB)) trivial (fun _ => trivial) fun _ _ => trivial
end
end Rl
end
section
set_option Elab.async false
set_option linter.all false
set_option maxRecDepth 100000
set_option maxHeartbeats 4000000
/-! RlEnd2: clear, anew, note of End. -/
namespace Rl
open PySem PySem.Spec PyProof.Rows L2

theorem endF_len {w : Bool} {ac ai a0 a1 : Addr} {n : Int} : (endF w ac ai n a0 a1).length < 1000 := by show 6 < 1000; decide
theorem endF_waits {w : Bool} {ac ai a0 a1 : Addr} {n : Int} : (endF w ac ai n a0 a1).lookup ("waits" : Str) = some (.bl w) := fld_get ndE (i := 0) rfl rfl
theorem endF_counts {w : Bool} {ac ai a0 a1 : Addr} {n : Int} : (endF w ac ai n a0 a1).lookup ("counts" : Str) = some (.ref ac) := fld_get ndE (i := 1) rfl rfl
theorem endF_inboxes {w : Bool} {ac ai a0 a1 : Addr} {n : Int} : (endF w ac ai n a0 a1).lookup ("inboxes" : Str) = some (.ref ai) := fld_get ndE (i := 2) rfl rfl
theorem endF_resets {w : Bool} {ac ai a0 a1 : Addr} {n : Int} : (endF w ac ai n a0 a1).lookup ("resets" : Str) = some (.int n) := fld_get ndE (i := 3) rfl rfl
theorem endF_sent {w : Bool} {ac ai a0 a1 : Addr} {n : Int} : (endF w ac ai n a0 a1).lookup ("sent" : Str) = some (.ref a0) := fld_get ndE (i := 4) rfl rfl
theorem endF_got {w : Bool} {ac ai a0 a1 : Addr} {n : Int} : (endF w ac ai n a0 a1).lookup ("got" : Str) = some (.ref a1) := fld_get ndE (i := 5) rfl rfl
theorem endF_no {m : Str} (h : m ∉ nsE) {w : Bool} {ac ai a0 a1 : Addr} {n : Int} : (endF w ac ai n a0 a1).lookup m = none := fld_no h
theorem endF_pwaits {w w' : Bool} {ac ai a0 a1 : Addr} {n : Int} : putF ("waits" : Str) (.bl w') (endF w ac ai n a0 a1) = endF w' ac ai n a0 a1 := fld_put ndE (i := 0) rfl rfl
theorem endF_pcounts {w : Bool} {ac ac' ai a0 a1 : Addr} {n : Int} : putF ("counts" : Str) (.ref ac') (endF w ac ai n a0 a1) = endF w ac' ai n a0 a1 := fld_put ndE (i := 1) rfl rfl
theorem endF_pinboxes {w : Bool} {ac ai ai' a0 a1 : Addr} {n : Int} : putF ("inboxes" : Str) (.ref ai') (endF w ac ai n a0 a1) = endF w ac ai' n a0 a1 := fld_put ndE (i := 2) rfl rfl
theorem endF_presets {w : Bool} {ac ai a0 a1 : Addr} {n m : Int} : putF ("resets" : Str) (.int m) (endF w ac ai n a0 a1) = endF w ac ai m a0 a1 := fld_put ndE (i := 3) rfl rfl

/-- all of an end's cells but those of one role -/
def eN (π : Pth) (s : Bool) (r : Rol) : Pth × Rol → Prop := fun x => x ≠ (π, r)
theorem eS_mk {π : Pth} {s : Bool} {r : Rol} (h : ofE s r = true) : eS π s (π, r) := ⟨rfl, h⟩

section
variable {K : PySem.W.Frag} {ρ : Gh} {H : Hp} {π : Pth} {s g : Bool} {ah : Addr} {aR : Bool → Addr} {aW : Bool → List Addr} {hist : Bool → List (List Pk)}
/-- one packet more in the last row -/
theorem HstIs.note (c : HstIs K ρ H π s g ah aR aW hist) {k : Bool} {w : Addr} {l : List Pk} {vs : List V} {p : Pk} {y : V} (hw : (aW k)[(hist k).length - 1]? = some w) (hl : (hist k)[(hist k).length - 1]? = some l)
    (hv : PkAll K H l vs) (hc : Cel ρ H (π, .row s g k ((hist k).length - 1)) w (.lst vs)) (hp : PkAt K H p y) : HstIs K ρ (upd H w (.lst (vs ++ [y]))) π s g ah aR aW (upB hist k (addLast (hist k) p)) := by
  have m : Mv K (eN π s (.row s g k ((hist k).length - 1))) ρ ρ H (upd H w (.lst (vs ++ [y]))) := Mv.wr hc.r hc.h trivial (fun z => z rfl)
  refine ⟨m.c _ _ _ (by intro z; cases z) c.l, fun j => m.c _ _ _ (by intro z; cases z) (c.r j), fun j => ?_, fun j i a l' q1 q2 => ?_⟩
  · by_cases hj : j = k
    · subst hj
      rw [upB_same, c.n]
      unfold addLast
      rw [List.length_set]
    · rw [upB_ne hj, c.n]
  · by_cases hj : j = k
    · subst hj
      rw [upB_same] at q2
      unfold addLast at q2
      by_cases hi : i = (hist j).length - 1
      · subst hi
        rw [hw] at q1
        cases q1
        rw [List.getElem?_set_self (by exact (List.getElem?_eq_some_iff.mp hl).1)] at q2
        cases q2
        rw [List.getD_eq_getElem?_getD, hl]
        exact ⟨vs ++ [y], (hv.tst m.t).app (.cons (hp.tst m.t) .nil), Cel.set hc.r⟩
      · rw [List.getElem?_set_ne (fun z => hi z.symm)] at q2
        exact (c.w j i a l' q1 q2).mv m (by intro z; cases z; exact hi rfl)
    · rw [upB_ne hj] at q2
      exact (c.w j i a l' q1 q2).mv m (by intro z; cases z; exact hj rfl)
/-- a new, empty row -/
theorem HstIs.row (c : HstIs K ρ H π s g ah aR aW hist) (t : Trk ρ H) {k : Bool} {q : Addr} (hq : H q = none) :
    HstIs K (gset ρ q (π, .row s g k (hist k).length)) (upd (upd H q (.lst [])) (aR k) (.lst ((aW k).map V.ref ++ [.ref q]))) π s g ah aR (upB aW k (aW k ++ [q])) (upB hist k (hist k ++ [[]])) := by
  have m1 : Mv K (fun _ => True) ρ _ H _ := Mv.cell (x := (π, .row s g k (hist k).length)) (o := .lst []) t hq
  have cr := m1.c _ _ _ trivial (c.r k)
  have m2 : Mv K (eN π s (.rows s g k)) _ _ _ (upd (upd H q (.lst [])) (aR k) (.lst ((aW k).map V.ref ++ [.ref q]))) := Mv.wr cr.r cr.h trivial (fun z => z rfl)
  have m := (m1.mono (R' := eN π s (.rows s g k)) fun _ _ => trivial).trans m2
  have cq : Cel (gset ρ q (π, .row s g k (hist k).length)) (upd H q (.lst [])) (π, .row s g k (hist k).length) q (.lst []) := Cel.made
  refine ⟨m.c _ _ _ (by intro z; cases z) c.l, fun j => ?_, fun j => ?_, fun j i a l' q1 q2 => ?_⟩
  · by_cases hj : j = k
    · subst hj
      rw [upB_same, List.map_append]
      exact Cel.set cr.r
    · rw [upB_ne hj]
      exact m.c _ _ _ (by intro z; cases z; exact hj rfl) (c.r j)
  · by_cases hj : j = k
    · subst hj
      rw [upB_same, upB_same, List.length_append, List.length_append, c.n]; rfl
    · rw [upB_ne hj, upB_ne hj, c.n]
  · by_cases hj : j = k
    · subst hj
      rw [upB_same] at q1 q2
      by_cases hi : i < (hist j).length
      · rw [List.getElem?_append_left (by rw [c.n]; exact hi)] at q1
        rw [List.getElem?_append_left hi] at q2
        exact (c.w j i a l' q1 q2).mv m (by intro z; cases z)
      · rw [List.getElem?_append_right (by rw [c.n]; omega)] at q1
        rw [List.getElem?_append_right (by omega)] at q2
        have e : i = (hist j).length := by
          have := (List.getElem?_eq_some_iff.mp q2).1
          simp at this; omega
        subst e
        rw [c.n, Nat.sub_self] at q1
        rw [Nat.sub_self] at q2
        cases q1
        cases q2
        exact ⟨[], .nil, m2.c _ _ _ (by intro z; cases z) cq⟩
    · rw [upB_ne hj] at q1 q2
      exact (c.w j i a l' q1 q2).mv m (by intro z; cases z)
end

section
variable {P : Program} {w : World} {K : PySem.W.Frag} {mg : Str → Option Value} {base : Heap} {A : Adr}
theorem ok_E_clear (T : Txt K mg A) : Ok P w K mg base CX0 1 A.f_E_clear p_E_clear (spEclear K A.c_E) := by
  refine ok_of T.F_E_clear sc_E_clear (fun vs H Q E h => ?_) (fun cdv A' outer s H vs Q E hr h => ?_)
  · obtain ⟨ρ, π, s, a, e, rfl, _⟩ := h
    rfl
  · obtain ⟨ρ, π, s, a, e, rfl, ht, ⟨x, ho, hc, hi, hh⟩, k⟩ := h
    refine ⟨_, pss_one (ps_fld (pv 0) (pe_lst (pa_cons (pe_lst pa_nil) (pa_cons (pe_lst pa_nil) pa_nil))) rfl), ?_⟩
    refine fld_in ?_
    refine two_disp (K := K) ht (π, .inbs s) (fun c => (π, .inn s c)) fun ρ1 H1 ai aI s1 m1 ci cI => ?_
    have ho1 := m1.c _ _ _ trivial ho
    refine ⟨_, rfl, a, _, x.dx, _, rfl, ho1.h, T.cl_E, T.a_E_inboxes, endF_len, ?_⟩
    rw [endF_pinboxes]
    have m2 : Mv K (eN π s (.eobj s)) ρ1 ρ1 H1 (upd H1 a (.ins A.c_E x.dx (endF e.waits x.ac ai e.resets (x.ah false) (x.ah true)))) := Mv.wr ho1.r ho1.h trivial (fun z => z rfl)
    have m := (m1.mono (R' := eN π s (.eobj s)) fun _ _ => trivial).trans m2
    have st := (s1.mono (S' := eS π s) fun _ z => z.elim).wr (o := .ins A.c_E x.dx (endF e.waits x.ac ai e.resets (x.ah false) (x.ah true))) ho1.r (eS_mk (by simp [ofE])) trivial
    refine k ρ1 _ st ⟨{ x with ai := ai, aI := aI }, Cel.set ho1.r, m.c _ _ _ (by intro z; cases z) hc, ⟨m2.c _ _ _ (by intro z; cases z) ci, fun c => ⟨[], .nil, m2.c _ _ _ (by intro z; cases z) (cI c)⟩⟩, fun g => ?_⟩
    exact (hh g).mv m (by intro z; cases z) (fun _ => by intro z; cases z) fun _ _ => by intro z; cases z
theorem ok_E_note (T : Txt K mg A) : Ok P w K mg base CX0 1 A.f_E_note p_E_note (spEnote K A.c_E) := by
  refine ok_of T.F_E_note sc_E_note (fun vs H Q E h => ?_) (fun cdv A' outer s H vs Q E hr h => ?_)
  · obtain ⟨ρ, π, s, g, k, a, e, x, p, y, n, rfl, _⟩ := h
    rfl
  · obtain ⟨ρ, π, s, g, kk, a, e, x, p, y, n, rfl, ht, ⟨ho, hc, hi, hh⟩, hp, hne, hb, hn, k⟩ := h
    refine ⟨_, pss_cons (ps_set (i := 4) sc_E_note.nd rfl (Or.inl rfl) (pe_ix ix_list (pv 1) (pv 2) (fun _ _ => rfl)))
      (pss_one (ps_expr (pe_append (pe_ix ix_list (pv 4) (pe_op op_sub (pe_lenOf T.b_len (pv 4)) pe_int) (fun _ _ => rfl)) (pv 3)))), ?_⟩
    have c := hh g
    have hpos : 0 < (e.hist g kk).length := List.length_pos_iff.mpr hne
    have hlw := c.n kk
    obtain ⟨l, hl⟩ : ∃ l, (e.hist g kk)[(e.hist g kk).length - 1]? = some l := ⟨_, List.getElem?_eq_getElem (by omega)⟩
    obtain ⟨wv, hw⟩ : ∃ wv, (x.aW g kk)[(e.hist g kk).length - 1]? = some wv := ⟨_, List.getElem?_eq_getElem (by omega)⟩
    obtain ⟨vs, hv, hcel⟩ := c.w kk _ _ _ hw hl
    have hml := hb.r g kk l (List.mem_of_getElem? hl)
    refine ⟨_, rfl, _, rfl, x.ah g, _, _, _, rfl, rfl, SqL.of c.l.h, at2 (f := fun z => .ref (x.aR g z)) kk, ?_⟩
    refine ⟨_, rfl, _, rfl, x.aR g kk, _, rfl, .inl (SqL.of (c.r kk).h), _, _, rfl, rfl, ?_⟩
    have e1 : (((x.aW g kk).map V.ref).length : Int) - 1 = (((e.hist g kk).length - 1 : Nat) : Int) := by rw [List.length_map]; omega
    refine ⟨x.aR g kk, _, _, .ref wv, rfl, rfl, SqL.of (c.r kk).h, ?_, ?_⟩
    · rw [e1]
      refine atI_nat ?_
      rw [List.getElem?_map, hw]; rfl
    · refine ⟨.inl ⟨rfl, _, SqL.of hcel.h⟩, _, rfl, wv, vs, y, rfl, rfl, hcel.h, ?_, ?_⟩
      · have := hv.length
        exact sz_lt' (by omega)
      · have m : Mv K (eN π s (.row s g kk ((e.hist g kk).length - 1))) ρ ρ H (upd H wv (.lst (vs ++ [y]))) := Mv.wr hcel.r hcel.h trivial (fun z => z rfl)
        refine k _ ((Stp.refl ht).wr hcel.r (eS_mk (by simp [ofE])) trivial) ⟨m.c _ _ _ (by intro z; cases z) ho, m.c _ _ _ (by intro z; cases z) hc, hi.mv m (by intro z; cases z) (fun _ => by intro z; cases z), fun g' => ?_⟩
        by_cases hg : g' = g
        · subst hg
          have q := c.note hw hl hv hcel hp
          have eh : upB (e.hist g') kk (addLast (e.hist g' kk) p) = (e.note g' kk p).hist g' := by
            funext j
            show (if j = kk then _ else _) = upH e.hist g' kk _ g' j
            unfold upH
            by_cases hj : j = kk
            · rw [if_pos hj, if_pos ⟨rfl, hj⟩]
            · rw [if_neg hj, if_neg (fun z => hj z.2)]
          rw [← eh]
          exact q
        · have eh : (e.note g kk p).hist g' = e.hist g' := by
            funext j
            show upH e.hist g kk _ g' j = _
            unfold upH
            rw [if_neg (fun z => hg z.1)]
          rw [eh]
          exact (hh g').mv m (by intro z; cases z) (fun _ => by intro z; cases z) fun _ _ => by intro z; cases z; exact hg rfl
end
end Rl
end
section
set_option Elab.async false
set_option linter.all false
set_option maxRecDepth 100000
set_option maxHeartbeats 4000000
/-! RlEnd3: anew of End. -/
namespace Rl
open PySem PySem.Spec PyProof.Rows L2

/-- behind i rows of the four -/
def anewI (e : ME) (i : Nat) : ME := ⟨false, fun _ => 0, e.inn, e.resets + 1, fun g k => if 2 * bN g + bN k < i then e.hist g k ++ [[]] else e.hist g k⟩
theorem anewI_4 (e : ME) : anewI e 4 = e.anew := by
  unfold anewI ME.anew
  congr 1
  funext g k
  cases g <;> cases k <;> rfl
theorem anewI_step (e : ME) (g k : Bool) (g' : Bool) : (anewI e (2 * bN g + bN k + 1)).hist g' = if g' = g then upB ((anewI e (2 * bN g + bN k)).hist g) k (e.hist g k ++ [[]]) else (anewI e (2 * bN g + bN k)).hist g' := by
  funext k'
  cases g <;> cases k <;> cases g' <;> cases k' <;> rfl
theorem anewI_at (e : ME) (g k : Bool) : (anewI e (2 * bN g + bN k)).hist g k = e.hist g k := by
  cases g <;> cases k <;> rfl
theorem four {f : Bool → Bool → Addr} {i : Nat} {y : V} (h : [V.ref (f false false), .ref (f false true), .ref (f true false), .ref (f true true)][i]? = some y) : ∃ g k, i = 2 * bN g + bN k ∧ y = .ref (f g k) := by
  match i, h with
  | 0, h => cases h; exact ⟨false, false, rfl, rfl⟩
  | 1, h => cases h; exact ⟨false, true, rfl, rfl⟩
  | 2, h => cases h; exact ⟨true, false, rfl, rfl⟩
  | 3, h => cases h; exact ⟨true, true, rfl, rfl⟩

section
variable {P : Program} {w : World} {K : PySem.W.Frag} {mg : Str → Option Value} {base : Heap} {A : Adr}
theorem ok_E_anew (T : Txt K mg A) : Ok P w K mg base CX0 1 A.f_E_anew p_E_anew (spEanew K A.c_E) := by
  refine ok_of T.F_E_anew sc_E_anew (fun vs H Q E h => ?_) (fun cdv A' outer s H vs Q E hr h => ?_)
  · obtain ⟨ρ, π, s, a, e, n, rfl, _⟩ := h
    rfl
  · obtain ⟨ρ, π, s, a, e, n, rfl, ht, ⟨x, ho, hc, hi, hh⟩, hb, hn, k⟩ := h
    refine ⟨_, pss_cons (ps_fld (pv 0) pe_bl rfl)
      (pss_cons (ps_fld (pv 0) (pe_lst (pa_cons pe_int (pa_cons pe_int pa_nil))) rfl)
      (pss_cons (ps_fldaug (pv 0) pe_int in_add)
      (pss_one (ps_for PassesOwn.never rfl (pi_list (pe_op op_cat (pe_fld (pv 0) rfl) (pe_fld (pv 0) rfl))) (pg_name (i := 1) sc_E_anew.nd rfl (Or.inl rfl)) (pss_one (ps_expr (pe_append (pv 1) (pe_lst pa_nil)))))))), ?_⟩
    refine ⟨_, rfl, a, _, x.dx, _, rfl, ho.h, T.cl_E, T.a_E_waits, endF_len, ?_⟩
    rw [endF_pwaits]
    -- the object is written, the counts are new
    have s1 := (Stp.refl (S := eS π s) ht).wr (o := .ins A.c_E x.dx (endF false x.ac x.ai e.resets (x.ah false) (x.ah true))) ho.r (eS_mk (by simp [ofE])) trivial
    have m1 : Mv K (eN π s (.eobj s)) ρ ρ H (upd H a (.ins A.c_E x.dx (endF false x.ac x.ai e.resets (x.ah false) (x.ah true)))) := Mv.wr ho.r ho.h trivial (fun z => z rfl)
    refine ⟨two_le, fun ac hac => ?_⟩
    have s2 := s1.cell (x := (π, .cnt s)) (o := .lst [.int 0, .int 0]) hac trivial
    have m2 : Mv K (fun _ => True) ρ _ _ _ := Mv.cell (x := (π, .cnt s)) (o := .lst [.int 0, .int 0]) s1.trk hac
    have ho2 := m2.c _ _ _ trivial (Cel.set (H := H) (o := .ins A.c_E x.dx (endF false x.ac x.ai e.resets (x.ah false) (x.ah true))) ho.r)
    have hc2 : Cel (gset ρ ac (π, .cnt s)) (upd (upd H a (.ins A.c_E x.dx (endF false x.ac x.ai e.resets (x.ah false) (x.ah true)))) ac (.lst [.int 0, .int 0])) (π, .cnt s) ac (.lst [.int 0, .int 0]) := Cel.made
    refine ⟨_, rfl, a, _, x.dx, _, rfl, ho2.h, T.cl_E, T.a_E_counts, endF_len, ?_⟩
    rw [endF_pcounts]
    have s3 := s2.wr (o := .ins A.c_E x.dx (endF false ac x.ai e.resets (x.ah false) (x.ah true))) ho2.r (eS_mk (by simp [ofE])) trivial
    have m3 : Mv K (eN π s (.eobj s)) _ _ _ (upd _ a (.ins A.c_E x.dx (endF false ac x.ai e.resets (x.ah false) (x.ah true)))) := Mv.wr ho2.r ho2.h trivial (fun z => z rfl)
    have ho3 := Cel.set (H := (upd (upd H a (.ins A.c_E x.dx (endF false x.ac x.ai e.resets (x.ah false) (x.ah true)))) ac (.lst [.int 0, .int 0]))) (o := .ins A.c_E x.dx (endF false ac x.ai e.resets (x.ah false) (x.ah true))) ho2.r
    refine ⟨_, rfl, a, _, x.dx, _, _, rfl, ho3.h, T.cl_E, T.a_E_resets, endF_resets, _, _, rfl, rfl, x.dx, _, ho3.h, endF_len, ?_⟩
    rw [endF_presets]
    have er : ((e.resets : Nat) : Int) + 1 = ((e.resets + 1 : Nat) : Int) := rfl
    rw [er]
    have s4 := s3.wr (o := .ins A.c_E x.dx (endF false ac x.ai ((e.resets + 1 : Nat) : Int) (x.ah false) (x.ah true))) ho3.r (eS_mk (by simp [ofE])) trivial
    have m4 : Mv K (eN π s (.eobj s)) _ _ _ (upd _ a (.ins A.c_E x.dx (endF false ac x.ai ((e.resets + 1 : Nat) : Int) (x.ah false) (x.ah true)))) := Mv.wr ho3.r ho3.h trivial (fun z => z rfl)
    have ho4 := Cel.set (H := upd (upd (upd H a (.ins A.c_E x.dx (endF false x.ac x.ai e.resets (x.ah false) (x.ah true)))) ac (.lst [.int 0, .int 0])) a (.ins A.c_E x.dx (endF false ac x.ai e.resets (x.ah false) (x.ah true)))) (o := .ins A.c_E x.dx (endF false ac x.ai ((e.resets + 1 : Nat) : Int) (x.ah false) (x.ah true))) ho3.r
    have m34 := m3.trans m4
    have mAll := (m1.trans (m2.mono (R' := eN π s (.eobj s)) fun _ _ => trivial)).trans m34
    have i4 := hi.mv mAll (by intro z; cases z) (fun _ => by intro z; cases z)
    have c4 := m34.c _ _ _ (by intro z; cases z) hc2
    have h4 : ∀ g, HstIs K _ _ π s g (x.ah g) (x.aR g) (x.aW g) (e.hist g) := fun g => (hh g).mv mAll (by intro z; cases z) (fun _ => by intro z; cases z) fun _ _ => by intro z; cases z
    refine ⟨_, rfl, a, _, x.dx, _, _, rfl, ho4.h, T.cl_E, T.a_E_sent, endF_sent, _, rfl, a, _, x.dx, _, _, rfl, ho4.h, T.cl_E, T.a_E_got, endF_got, ?_⟩
    refine ⟨x.ah false, x.ah true, _, _, rfl, rfl, (h4 false).l.h, (h4 true).l.h, (by show 4 ≤ sizeLine; decide), fun D hD => ?_⟩
    have s5 := s4.new (o := .lst [.ref (x.aR false false), .ref (x.aR false true), .ref (x.aR true false), .ref (x.aR true true)]) hD
    have m5 : Mv K (fun _ => True) _ _ _ _ := Mv.new (ρ := gset ρ ac (π, .cnt s)) (o := .lst [.ref (x.aR false false), .ref (x.aR false true), .ref (x.aR true false), .ref (x.aR true true)]) hD
    have nD := s4.trk.free hD
    have hD0 := s4.there hD
    refine ⟨D, rfl, ⟨[.ref (x.aR false false), .ref (x.aR false true), .ref (x.aR true false), .ref (x.aR true true)], .of upd_same⟩, for_list (xs := [.ref (x.aR false false), .ref (x.aR false true), .ref (x.aR true false), .ref (x.aR true true)])
      (fun i σ H' => ∃ (v : Option V) (ρ' : Gh) (aW' : Bool → Bool → List Addr), σ = [some (.ref a), v] ∧ Stp (eS π s) ρ ρ' H H' ∧ ρ' D = none ∧ H' D = some (.lst [.ref (x.aR false false), .ref (x.aR false true), .ref (x.aR true false), .ref (x.aR true true)]) ∧
        EndIs K A.c_E ρ' H' π s a (anewI e i) { x with ac := ac, aW := aW' })
      ⟨none, gset ρ ac (π, .cnt s), x.aW, rfl, s5, nD, upd_same, m5.c _ _ _ trivial ho4, m5.c _ _ _ trivial c4, i4.mv m5 trivial (fun _ => trivial), fun g => ?_⟩ (fun i σ H' _ ⟨_, _, _, _, _, _, q, _⟩ => .of q) ?_ ?_⟩
    · have eg : (anewI e 0).hist g = e.hist g := by
        funext k'
        show (if 2 * bN g + bN k' < 0 then e.hist g k' ++ [[]] else e.hist g k') = _
        rw [if_neg (by omega)]
      rw [eg]
      exact (h4 g).mv m5 trivial (fun _ => trivial) fun _ _ => trivial
    · rintro i y σ H' hiy ⟨v, ρ', aW', rfl, st, n1, hD1, ⟨o5, c5, i5, h5⟩⟩
      obtain ⟨g, kk, rfl, rfl⟩ := four hiy
      have cr := (h5 g).r kk
      have hlen : ((anewI e (2 * bN g + bN kk)).hist g kk).length ≤ n := by rw [anewI_at]; exact hb.h g kk
      refine ⟨_, rfl, .inl ⟨rfl, _, SqL.of cr.h⟩, Nat.zero_le _, fun q hq => ?_⟩
      have crq := cr.new (u := .lst []) hq
      have nln := (h5 g).n kk
      refine ⟨x.aR g kk, _, .ref q, rfl, rfl, crq.h, ?_, ?_⟩
      · rw [List.length_map]
        have nln2 : (aW' g kk).length = ((anewI e (2 * bN g + bN kk)).hist g kk).length := nln
        exact sz_lt' (by omega)
      · have s6 := st.cell (x := (π, .row s g kk ((anewI e (2 * bN g + bN kk)).hist g kk).length)) (o := .lst []) hq trivial
        have m6 : Mv K (fun _ => True) _ _ _ _ := Mv.cell (x := (π, .row s g kk ((anewI e (2 * bN g + bN kk)).hist g kk).length)) (o := .lst []) st.trk hq
        have cr6 := m6.c _ _ _ trivial cr
        have s7 := s6.wr (o := .lst ((aW' g kk).map V.ref ++ [.ref q])) cr6.r (eS_mk (by simp [ofE])) trivial
        have m7 : Mv K (eN π s (.rows s g kk)) _ _ _ (upd _ (x.aR g kk) (.lst ((aW' g kk).map V.ref ++ [.ref q]))) := Mv.wr cr6.r cr6.h trivial (fun z => z rfl)
        have m67 := (m6.mono (R' := eN π s (.rows s g kk)) fun _ _ => trivial).trans m7
        have nDq : D ≠ q := ne_of_none hD1 hq
        have nDr : D ≠ x.aR g kk := fun z => by
          have := cr6.r
          rw [← z, gset_ne nDq, n1] at this
          cases this
        refine ⟨_, _, fun g' => if g' = g then upB (aW' g) kk (aW' g kk ++ [q]) else aW' g', rfl, s7, by rw [gset_ne nDq]; exact n1, by rw [upd_ne nDr, upd_ne nDq]; exact hD1, m67.c _ _ _ (by intro z; cases z) o5, m67.c _ _ _ (by intro z; cases z) c5, i5.mv m67 (by intro z; cases z) (fun _ => by intro z; cases z), fun g' => ?_⟩
        rw [anewI_step]
        by_cases hg : g' = g
        · subst hg
          have q1 := (h5 g').row st.trk (k := kk) (q := q) hq
          have ea := anewI_at e g' kk
          show HstIs K _ _ π s g' _ _ (if g' = g' then _ else _) (if g' = g' then _ else _)
          rw [if_pos rfl, if_pos rfl]
          rw [← ea]
          exact q1
        · show HstIs K _ _ π s g' _ _ (if g' = g then _ else _) (if g' = g then _ else _)
          rw [if_neg hg, if_neg hg]
          exact (h5 g').mv m67 (by intro z; cases z) (fun _ => by intro z; cases z; exact hg rfl) fun _ _ => by intro z; cases z
    · rintro σ H' ⟨v, ρ', aW', rfl, st, n1, hD1, he⟩
      have he : EndIs K A.c_E ρ' H' π s a (anewI e 4) { x with ac := ac, aW := aW' } := he
      rw [anewI_4] at he
      exact k ρ' H' st ⟨{ x with ac := ac, aW := aW' }, he⟩
end
end Rl
end
section
set_option Elab.async false
set_option linter.all false
set_option maxRecDepth 100000
set_option maxHeartbeats 4000000
/-! RlLk: the methods of Link. -/
namespace Rl
open PySem PySem.Spec PyProof.Rows L2

theorem linkF_ends {ae aq : Addr} : (linkF ae aq).lookup ("ends" : Str) = some (.ref ae) := fld_get ndL (i := 0) rfl rfl
theorem linkF_queues {ae aq : Addr} : (linkF ae aq).lookup ("queues" : Str) = some (.ref aq) := fld_get ndL (i := 1) rfl rfl
theorem linkF_no {m : Str} (h : m ∉ nsL) {ae aq : Addr} : (linkF ae aq).lookup m = none := fld_no h
theorem linkF_new {ae aq : Addr} : putF "queues" (.ref aq) (putF "ends" (.ref ae) []) = linkF ae aq := by
  have e1 : putF ("ends" : Str) (.ref ae) [] = (["ends"] : List Str).zip [V.ref ae] := rfl
  rw [e1, fld_new (by decide +kernel) rfl]; rfl
def nKind (u : Bool) : Str := if u then "urgent" else "data"
theorem tup2 {f : Bool → V} {K : PySem.W.Frag} {H : Hp} {a : Addr} (h : SqT K H a [f false, f true]) (b : Bool) : ∃ v, atI [f false, f true] (bI b) = some v ∧ v = f b := ⟨_, at2 b, rfl⟩

/-! ### promises -/
def spLinit (K : PySem.W.Frag) (A : Adr) : Sp := fun vs H Q _ => ∃ (H0 : Hp) (ρ : Gh) (π : Pth) (a dx : Addr), vs = [.ref a] ∧ Same H0 H ∧ H0 a = none ∧ H a = some (.ins A.c_L dx []) ∧ Trk ρ H0 ∧
  ∀ ρ' H', Stp (fun _ => False) ρ ρ' H0 H' → LinkAt K A ρ' H' π a ML.fresh → Q .non H'
def spPut (K : PySem.W.Frag) (A : Adr) : Sp := fun vs H Q _ => ∃ (ρ : Gh) (π : Pth) (p : Addr) (m : ML) (x : LA) (s : Bool) (i : Itm) (y : V) (n : Nat), vs = [.ref p, .int (bI s), .str (kindS i), y] ∧ Trk ρ H ∧ LinkIs K A ρ H π p m x ∧ itV K H y i ∧ Bd n m ∧ n < 16000000 ∧
  ∀ H', Stp (fun z => z = (π, .que (!s))) ρ ρ H H' → LinkIs K A ρ H' π p (m.put s i) x → Q .non H'
def spCan (K : PySem.W.Frag) (A : Adr) : Sp := fun vs H Q _ => ∃ (ρ : Gh) (π : Pth) (p : Addr) (m : ML) (s k : Bool) (w : Nat), vs = [.ref p, .int (bI s), .int (bI k), .int w] ∧ LinkAt K A ρ H π p m ∧ Q (.bl (m.canSend s k w)) H
def spSend (K : PySem.W.Frag) (A : Adr) : Sp := fun vs H Q _ => ∃ (ρ : Gh) (π : Pth) (p : Addr) (m : ML) (s k : Bool) (pk : Pk) (y : V) (n : Nat), vs = [.ref p, .int (bI s), .int (bI k), y] ∧ Trk ρ H ∧ LinkAt K A ρ H π p m ∧ PkAt K H pk y ∧ Bd n m ∧ n < 15000000 ∧
  ∀ H', Stp (lS π) ρ ρ H H' → LinkAt K A ρ H' π p (m.send s k pk) → Q .non H'
def spTake (K : PySem.W.Frag) (A : Adr) : Sp := fun vs H Q _ => ∃ (ρ : Gh) (π : Pth) (p : Addr) (m : ML) (s k : Bool) (pk : Pk) (l : List Pk) (n : Nat), vs = [.ref p, .int (bI s), .int (bI k)] ∧ Trk ρ H ∧ LinkAt K A ρ H π p m ∧ (m.e s).inn k = pk :: l ∧ Bd n m ∧ n < 15000000 ∧
  ∀ ρ' H' y, Stp (lS π) ρ ρ' H H' → LinkAt K A ρ' H' π p (m.took s k) → PkAt K H' pk y → Q y H'
def spReset (K : PySem.W.Frag) (A : Adr) : Sp := fun vs H Q _ => ∃ (ρ : Gh) (π : Pth) (p : Addr) (m : ML) (s : Bool) (n : Nat), vs = [.ref p, .int (bI s)] ∧ Trk ρ H ∧ LinkAt K A ρ H π p m ∧ Bd n m ∧ n < 15000000 ∧
  ∀ ρ' H', Stp (lS π) ρ ρ' H H' → LinkAt K A ρ' H' π p (m.reset s) → Q .non H'
def spArrive (K : PySem.W.Frag) (A : Adr) : Sp := fun vs H Q _ => ∃ (ρ : Gh) (π : Pth) (p : Addr) (m : ML) (s : Bool) (i : Itm) (l : List Itm) (n : Nat), vs = [.ref p, .int (bI s)] ∧ Trk ρ H ∧ LinkAt K A ρ H π p m ∧ m.q s = i :: l ∧ Bd n m ∧ n < 15000000 ∧
  ∀ ρ' H' t, Stp (lS π) ρ ρ' H H' → LinkAt K A ρ' H' π p (m.arrive s).1 → H' t = some (.tup [.str (kindS i), .bl (m.arrive s).2]) → Q (.ref t) H'

section
variable {P : Program} {w : World} {K : PySem.W.Frag} {mg : Str → Option Value} {base : Heap} {A : Adr}
theorem ok_L_init (T : Txt K mg A) : Ok P w K mg base CX0 3 A.f_L_init p_L_init (spLinit K A) := by
  have G := ok_E_init (P := P) (w := w) (base := base) T
  refine ok_of T.F_L_init sc_L_init (fun vs H Q E h => ?_) (fun cdv A' outer s H vs Q E hr h => ?_)
  · obtain ⟨H0, ρ, π, a, dx, rfl, _⟩ := h
    rfl
  · obtain ⟨H0, ρ, π, a, dx, rfl, hs, h0, ha, ht, k⟩ := h
    refine ⟨_, pss_cons (ps_fld (pv 0) (pe_lst (pa_cons (fn_make0 T.mk_E G T.gc_E hr) (pa_cons (fn_make0 T.mk_E G T.gc_E hr) pa_nil))) rfl)
      (pss_one (ps_fld (pv 0) (pe_lst (pa_cons (pe_lst pa_nil) (pa_cons (pe_lst pa_nil) pa_nil))) rfl)), ?_⟩
    have n0 : ρ a = none := ht.free h0
    have s0 : Stp (fun _ => False) ρ ρ H0 H := Stp.same ht hs
    intro e0 d0 ne0 nd0 nn0
    refine ⟨H, ρ, π, false, e0, d0, rfl, (Same.new nd0).trans (Same.new (by rw [upd_ne (fun z => nn0 z.symm)]; exact ne0)), ne0, upd_same, s0.trk, fun ρ1 H1 s1 hE0 => ⟨rfl, ?_⟩⟩
    have s01 := s0.trans s1
    intro e1 d1 ne1 nd1 nn1
    refine ⟨H1, ρ1, π, true, e1, d1, rfl, (Same.new nd1).trans (Same.new (by rw [upd_ne (fun z => nn1 z.symm)]; exact ne1)), ne1, upd_same, s1.trk, fun ρ2 H2 s2 hE1 => ⟨rfl, two_le, fun ae hae => ?_⟩⟩
    have s02 := s01.trans s2
    have m2 : Mv K (fun _ => True) ρ1 ρ2 H1 H2 := Mv.stp s2 (fun _ _ z => z)
    have s3 := s02.cell (x := (π, .ends)) (o := .lst [.ref e0, .ref e1]) hae trivial
    have m3 : Mv K (fun _ => True) ρ2 _ H2 _ := Mv.cell (x := (π, .ends)) (o := .lst [.ref e0, .ref e1]) s02.trk hae
    have ha2 : H2 a = some (.ins A.c_L dx []) := s2.fr _ _ (s1.fr _ _ ha fun _ _ z => z) fun _ _ z => z
    have nae : a ≠ ae := ne_of_none ha2 hae
    have n2 : ρ2 a = none := s2.role (s1.role n0 ha) (s1.fr _ _ ha fun _ _ z => z)
    have n3 : gset ρ2 ae (π, .ends) a = none := by rw [gset_ne nae]; exact n2
    have ha3 : (upd H2 ae (.lst [.ref e0, .ref e1])) a = some (.ins A.c_L dx []) := by rw [upd_ne nae]; exact ha2
    refine ⟨_, rfl, a, _, dx, _, rfl, ha3, T.cl_L, T.a_L_ends, (by decide), ?_⟩
    have s4 := s3.mut (o := .ins A.c_L dx (putF "ends" (.ref ae) [])) h0 n3
    have m4 : Mv K (fun _ => True) _ _ _ _ := Mv.out (o := .ins A.c_L dx (putF "ends" (.ref ae) [])) n3 ha3 trivial
    have cen := m4.c _ _ _ trivial (Cel.made (ρ := ρ2) (H := H2) (x := (π, .ends)) (o := .lst [.ref e0, .ref e1]))
    dsimp only
    refine fld_in ?_
    refine two_disp (K := K) s4.trk (π, .ques) (fun c => (π, .que c)) fun ρ5 H5 aq aQ s5 m5 cq cQ => ?_
    have ha5 := s5.fr _ _ (upd_same (a := a)) (fun _ _ z => z)
    have n5 : ρ5 a = none := s5.role n3 upd_same
    refine ⟨_, rfl, a, _, dx, _, rfl, ha5, T.cl_L, T.a_L_queues, few_le (few_put few0), ?_⟩
    rw [linkF_new]
    have m6 : Mv K (fun _ => True) _ _ _ _ := Mv.out (o := .ins A.c_L dx (linkF ae aq)) n5 ha5 trivial
    have s6 := (s4.trans s5).mut (o := .ins A.c_L dx (linkF ae aq)) h0 n5
    have m7 : Mv K (fun _ => True) _ _ _ _ := Mv.give (x := (π, .obj)) (H := upd H5 a (.ins A.c_L dx (linkF ae aq))) n5
    have s7 := s6.give (x := (π, .obj)) h0 n5 upd_same trivial
    have m67 := m6.trans m7
    have m57 := m5.trans m67
    have m37 := (m3.trans m4).trans m57
    obtain ⟨x0, hx0⟩ := hE0
    obtain ⟨x1, hx1⟩ := hE1
    refine k _ _ s7 ⟨⟨dx, ae, aq, fun s => if s then e1 else e0, aQ, fun s => if s then x1 else x0⟩, ⟨gset_same, upd_same⟩, m57.c _ _ _ trivial cen, m67.c _ _ _ trivial cq, fun d => ⟨[], .nil, m67.c _ _ _ trivial (cQ d)⟩, fun s => ?_⟩
    cases s with
    | true => exact hx1.mv (m37.mono fun _ _ => trivial)
    | false => exact hx0.mv ((m2.trans m37).mono fun _ _ => trivial)
theorem ok_L_put (T : Txt K mg A) : Ok P w K mg base CX0 1 A.f_L_put p_L_put (spPut K A) := by
  refine ok_of T.F_L_put sc_L_put (fun vs H Q E h => ?_) (fun cdv A' outer s H vs Q E hr h => ?_)
  · obtain ⟨ρ, π, p, m, x, s, i, y, n, rfl, _⟩ := h
    rfl
  · obtain ⟨ρ, π, p, m, x, s, i, y, n, rfl, ht, c, hi, hb, hn, k⟩ := h
    refine ⟨_, pss_one (ps_expr (pe_append (pe_ix ix_list (pe_fld (pv 0) rfl) (pe_op op_sub pe_int (pv 1)) (fun _ _ => rfl)) (pe_tup (pa_cons (pv 2) (pa_cons (pv 3) pa_nil))))), ?_⟩
    obtain ⟨vs, hv, cq⟩ := c.q (!s)
    refine ⟨_, rfl, p, _, x.dx, _, _, rfl, c.o.h, T.cl_L, T.a_L_queues, linkF_queues, _, rfl, _, _, rfl, rfl, ?_⟩
    refine ⟨x.aq, _, _, _, rfl, rfl, SqL.of c.qu.h, (by rw [bI_not]; exact at2 (f := fun z => .ref (x.aQ z)) (!s)), ?_⟩
    refine ⟨.inl ⟨rfl, _, SqL.of cq.h⟩, _, rfl, _, rfl, two_le, fun t htt => ?_⟩
    have cq1 := cq.new (u := .tup [.str (kindS i), y]) htt
    refine ⟨x.aQ (!s), vs, .ref t, rfl, rfl, cq1.h, ?_, ?_⟩
    · have := hv.length
      have := hb.q (!s)
      exact sz_lt' (by omega)
    · have s1 : Stp (fun z => z = (π, .que (!s))) ρ ρ H _ := (Stp.refl ht).new (o := .tup [.str (kindS i), y]) htt
      have s2 := s1.wr (o := .lst (vs ++ [.ref t])) cq.r rfl trivial
      have m1 : Mv K (fun _ => True) ρ ρ H _ := Mv.new (o := .tup [.str (kindS i), y]) htt
      have m2 : Mv K (fun z => z ≠ (π, .que (!s))) ρ ρ _ (upd _ (x.aQ (!s)) (.lst (vs ++ [.ref t]))) := Mv.wr cq1.r cq1.h trivial (fun z => z rfl)
      have mm := (m1.mono (R' := fun z => z ≠ (π, .que (!s))) fun _ _ => trivial).trans m2
      refine k _ s2 ⟨mm.c _ _ _ (by intro z; cases z) c.o, mm.c _ _ _ (by intro z; cases z) c.en, mm.c _ _ _ (by intro z; cases z) c.qu, fun d => ?_, fun t => (c.e t).mv (mm.mono fun z hz e => by
        rw [e] at hz
        exact absurd hz.2 (by simp [ofE]))⟩
      show CelI K ρ _ (π, .que d) (x.aQ d) (upB m.q (!s) (m.q (!s) ++ [i]) d)
      by_cases hd : d = !s
      · subst hd
        rw [upB_same]
        refine ⟨vs ++ [.ref t], (hv.tst mm.t).app (.cons ⟨t, y, rfl, m2.t _ _ (.of upd_same), hi.tst mm.t⟩ .nil), Cel.set cq.r⟩
      · rw [upB_ne hd]
        exact (c.q d).mv mm (by intro z; cases z; exact hd rfl)
theorem ok_L_can_send (T : Txt K mg A) : Ok P w K mg base CX0 1 A.f_L_can_send p_L_can_send (spCan K A) := by
  refine ok_of T.F_L_can_send sc_L_can_send (fun vs H Q E h => ?_) (fun cdv A' outer s H vs Q E hr h => ?_)
  · obtain ⟨ρ, π, p, m, s, kk, w, rfl, _⟩ := h
    rfl
  · obtain ⟨ρ, π, p, m, s, kk, w, rfl, ⟨x, c⟩, k⟩ := h
    obtain ⟨uO, hO, rO⟩ := T.v_ORDINARY
    refine ⟨_, pss_cons (ps_set (i := 4) sc_L_can_send.nd rfl (Or.inl rfl) (pe_ix ix_list (pe_fld (pv 0) rfl) (pv 1) (fun _ _ => rfl)))
      (pss_one (ps_ret (pe_and (pe_not (pe_fld (pv 4) rfl)) (pe_one (pe_cmpR op_lt (pe_ix ix_list (pe_fld (pv 4) rfl) (pv 2) (fun _ _ => rfl)) (pe_ifExp (pt_cmpR op_eq (pv 2) (pe_glob rfl hO rO) (nomark _)) (pv 3) pe_int) (nomark _)))))), ?_⟩
    have e := c.e s
    refine ⟨_, rfl, p, _, x.dx, _, _, rfl, c.o.h, T.cl_L, T.a_L_ends, linkF_ends, _, rfl, x.ae, _, _, _, rfl, rfl, SqL.of c.en.h, at2 (f := fun z => .ref (x.aE z)) s, ?_⟩
    refine ⟨_, rfl, x.aE s, _, (x.ea s).dx, _, _, rfl, e.o.h, T.cl_E, T.a_E_waits, endF_waits, _, rfl, _, rfl, ?_⟩
    unfold ML.canSend at k
    cases hw : (m.e s).waits with
    | true =>
      rw [hw] at k
      exact k
    | false =>
      rw [hw] at k
      refine ⟨_, rfl, x.aE s, _, (x.ea s).dx, _, _, rfl, e.o.h, T.cl_E, T.a_E_counts, endF_counts, _, rfl, _, _, _, _, rfl, rfl, SqL.of e.c.h, at2 (f := fun z => .int ((m.e s).cnt z)) kk, ?_⟩
      refine ⟨_, rfl, rfl, _, rfl, ?_⟩
      cases kk with
      | false =>
        refine if_yes rfl ?_
        exact ⟨_, rfl, _, _, rfl, rfl, k⟩
      | true =>
        refine if_no rfl ?_
        exact ⟨_, _, rfl, rfl, k⟩
end
end Rl
end
section
set_option Elab.async false
set_option linter.all false
set_option maxRecDepth 100000
set_option maxHeartbeats 4000000
/-! RlLk2: send, take, reset of Link. -/
namespace Rl
open PySem PySem.Spec PyProof.Rows L2

theorem EBd.addCnt {n : Nat} {e : ME} (b : EBd n e) (k : Bool) (z : Int) : EBd n (e.addCnt k z) := ⟨b.i, b.h, b.r, b.ne⟩
theorem addLast_mem {rows : List (List Pk)} {p : Pk} {l : List Pk} (h : l ∈ addLast rows p) : l ∈ rows ∨ ∃ l' , (l' ∈ rows ∨ l' = []) ∧ l = l' ++ [p] := by
  unfold addLast at h
  rcases List.mem_or_eq_of_mem_set h with q | q
  · exact .inl q
  · refine .inr ⟨_, ?_, q⟩
    rw [List.getD_eq_getElem?_getD]
    cases e : rows[rows.length - 1]? with
    | none => exact .inr rfl
    | some l' => exact .inl (List.mem_of_getElem? e)
theorem EBd.note {n : Nat} {e : ME} (b : EBd n e) (g k : Bool) (p : Pk) : EBd (n + 1) (e.note g k p) := by
  refine ⟨fun j => Nat.le_succ_of_le (b.i j), fun g' k' => ?_, fun g' k' l hl => ?_, fun g' k' => ?_⟩
  · show (upH e.hist g k (addLast (e.hist g k) p) g' k').length ≤ n + 1
    unfold upH
    split
    · rename_i h
      unfold addLast
      rw [List.length_set]
      exact Nat.le_succ_of_le (b.h g k)
    · exact Nat.le_succ_of_le (b.h g' k')
  · have hl : l ∈ upH e.hist g k (addLast (e.hist g k) p) g' k' := hl
    unfold upH at hl
    split at hl
    · rcases addLast_mem hl with q | ⟨l', q, rfl⟩
      · exact Nat.le_succ_of_le (b.r g k l q)
      · rw [List.length_append, List.length_singleton]
        rcases q with q | rfl
        · have := b.r g k l' q; omega
        · simp
    · exact Nat.le_succ_of_le (b.r g' k' l hl)
  · show upH e.hist g k (addLast (e.hist g k) p) g' k' ≠ []
    unfold upH
    split
    · intro z
      have := congrArg List.length z
      unfold addLast at this
      rw [List.length_set] at this
      exact b.ne g k (List.length_eq_zero_iff.mp this)
    · exact b.ne g' k'
theorem Bd.setE {n : Nat} {m : ML} {s : Bool} {e : ME} (b : Bd n m) (h : EBd n e) : Bd n (m.setE s e) := .of b.q fun t => by
  show EBd n (upB m.e s e t)
  unfold upB
  split
  · exact h
  · exact b.e t
theorem setE_setE (m : ML) (s : Bool) (e e' : ME) : (m.setE s e).setE s e' = m.setE s e' := by
  unfold ML.setE
  congr 1
  funext c
  unfold upB
  split
  · rfl
  · rename_i h
    exact if_neg h
theorem at_packets (k : Bool) : atI [V.str ("data" : Str), .str "urgent"] (bI k) = some (.str (nKind k)) := at2 (f := fun z => V.str (nKind z)) k
def cKind (u : Bool) : Str := if u then "urgent credit" else "credit"
theorem at_credits (k : Bool) : atI [V.str ("credit" : Str), .str "urgent credit"] (bI k) = some (.str (cKind k)) := at2 (f := fun z => V.str (cKind z)) k
theorem setE_at (m : ML) (s : Bool) (e : ME) : (m.setE s e).e s = e := upB_same
theorem kind_data (k : Bool) (p : Pk) : kindS (.data k p) = nKind k := rfl

section
variable {P : Program} {w : World} {K : PySem.W.Frag} {mg : Str → Option Value} {base : Heap} {A : Adr}
theorem ok_L_send (T : Txt K mg A) : Ok P w K mg base CX0 2 A.f_L_send p_L_send (spSend K A) := by
  have Gn := ok_E_note (P := P) (w := w) (base := base) T
  have Gp := ok_L_put (P := P) (w := w) (base := base) T
  refine ok_of T.F_L_send sc_L_send (fun vs H Q E h => ?_) (fun cdv A' outer s H vs Q E hr h => ?_)
  · obtain ⟨ρ, π, p, m, s, kk, pk, y, n, rfl, _⟩ := h
    rfl
  · obtain ⟨ρ, π, p, m, s, kk, pk, y, n, rfl, ht, ⟨x, c⟩, hpk, hb, hn, k⟩ := h
    refine ⟨_, pss_cons (ps_set (i := 4) sc_L_send.nd rfl (Or.inl rfl) (pe_ix ix_list (pe_fld (pv 0) rfl) (pv 1) (fun _ _ => rfl)))
      (pss_cons (ps_augS (pe_fld (pv 4) rfl) (pv 2) get_list pe_int ip_add set_list)
      (pss_cons (ps_expr (fn_meth Gn T.cl_E T.m_E_note hr (pv 4) (pa_cons (pe_fld (pv 4) rfl) (pa_cons (pv 2) (pa_cons (pv 3) pa_nil)))))
      (pss_one (ps_expr (fn_meth Gp T.cl_L T.m_L_put hr (pv 0) (pa_cons (pv 1) (pa_cons (pe_ix ix_tup (pe_glob (v := .ref A.t_PACKETS) rfl T.v_PACKETS rfl) (pv 2) (fun _ _ => rfl)) (pa_cons (pv 3) pa_nil)))))))), ?_⟩
    have e := c.e s
    refine ⟨_, rfl, p, _, x.dx, _, _, rfl, c.o.h, T.cl_L, T.a_L_ends, linkF_ends, _, rfl, x.ae, _, _, _, rfl, rfl, SqL.of c.en.h, at2 (f := fun z => .ref (x.aE z)) s, ?_⟩
    -- counts[kind] += 1
    refine ⟨_, rfl, x.aE s, _, (x.ea s).dx, _, _, rfl, e.o.h, T.cl_E, T.a_E_counts, endF_counts, _, rfl, ?_⟩
    refine ⟨(x.ea s).ac, _, bN kk, _, rfl, by rw [bI_eq], by cases kk <;> decide, SqL.of e.c.h, ix2 (f := fun z => .int ((m.e s).cnt z)) kk, _, _, rfl, rfl, ?_⟩
    refine ⟨(x.ea s).ac, _, _, bN kk, rfl, rfl, e.c.h, ixN2 (f := fun z => .int ((m.e s).cnt z)) kk, ?_⟩
    have es : [V.int ((m.e s).cnt false), V.int ((m.e s).cnt true)].set (bN kk) (V.int ((m.e s).cnt kk + 1)) = [V.int (((m.e s).addCnt kk 1).cnt false), V.int (((m.e s).addCnt kk 1).cnt true)] := by
      cases kk <;> rfl
    rw [es]
    have s1 : Stp (eS π s) ρ ρ H _ := (Stp.refl ht).wr (o := .lst [V.int (((m.e s).addCnt kk 1).cnt false), V.int (((m.e s).addCnt kk 1).cnt true)]) e.c.r (eS_mk (by simp [ofE])) trivial
    have m1 : Mv K (eN π s (.cnt s)) ρ ρ H (upd H (x.ea s).ac (.lst [V.int (((m.e s).addCnt kk 1).cnt false), V.int (((m.e s).addCnt kk 1).cnt true)])) := Mv.wr e.c.r e.c.h trivial (fun z => z rfl)
    have e1 : EndIs K A.c_E ρ (upd H (x.ea s).ac (.lst [V.int (((m.e s).addCnt kk 1).cnt false), V.int (((m.e s).addCnt kk 1).cnt true)])) π s (x.aE s) ((m.e s).addCnt kk 1) (x.ea s) :=
      ⟨m1.c _ _ _ (by intro z; cases z) e.o, Cel.set e.c.r, e.i.mv m1 (by intro z; cases z) (fun _ => by intro z; cases z), fun g => (e.h g).mv m1 (by intro z; cases z) (fun _ => by intro z; cases z) fun _ _ => by intro z; cases z⟩
    -- end.note(end.sent, kind, packet)
    refine ⟨_, rfl, x.aE s, (x.ea s).dx, _, rfl, e1.o.h, endF_no (by decide +kernel), _, rfl, x.aE s, _, (x.ea s).dx, _, _, rfl, e1.o.h, T.cl_E, T.a_E_sent, endF_sent, _, rfl, _, rfl, ?_⟩
    refine ⟨ρ, π, s, false, kk, x.aE s, (m.e s).addCnt kk 1, x.ea s, pk, y, n, rfl, s1.trk, e1, hpk.tst m1.t, hb.ne s false kk, (hb.e s).addCnt kk 1, by omega, fun H2 s2 e2 => ?_⟩
    have s12 := s1.trans s2
    have c2 := c.setE s12 e2
    have cO := c2.o.h
    -- self.put(side, PACKETS[kind], packet)
    refine ⟨_, rfl, p, x.dx, _, rfl, c2.o.h, linkF_no (by decide +kernel), _, rfl, _, rfl, A.t_PACKETS, _, _, _, rfl, rfl, T.w_PACKETS.at H2, at_packets kk, _, rfl, ?_⟩
    refine ⟨ρ, π, p, _, _, s, .data kk pk, y, n + 1, rfl, s12.trk, c2, hpk.tst s12.tst, (hb.mono (Nat.le_succ n)).setE (((hb.e s).addCnt kk 1).note false kk pk), by omega, fun H3 s3 c3 => ?_⟩
    have s13 : Stp (lS π) ρ ρ H H3 := (s12.mono eS_lS).trans (s3.mono fun z hz => by rw [hz]; rfl)
    exact k H3 s13 ⟨{ x with ea := upB x.ea s (x.ea s) }, c3⟩
theorem ok_L_take (T : Txt K mg A) : Ok P w K mg base CX0 2 A.f_L_take p_L_take (spTake K A) := by
  have Gp := ok_L_put (P := P) (w := w) (base := base) T
  refine ok_of T.F_L_take sc_L_take (fun vs H Q E h => ?_) (fun cdv A' outer s H vs Q E hr h => ?_)
  · obtain ⟨ρ, π, p, m, s, kk, pk, l, n, rfl, _⟩ := h
    rfl
  · obtain ⟨ρ, π, p, m, s, kk, pk, l, n, rfl, ht, ⟨x, c⟩, hin, hb, hn, k⟩ := h
    refine ⟨_, pss_cons (ps_set (i := 3) sc_L_take.nd rfl (Or.inl rfl) (pe_ix ix_list (pe_fld (pe_ix ix_list (pe_fld (pv 0) rfl) (pv 1) (fun _ _ => rfl)) rfl) (pv 2) (fun _ _ => rfl)))
      (pss_cons (ps_set (i := 4) sc_L_take.nd rfl (Or.inl rfl) (pe_ix ix_list (pv 3) pe_int (fun _ _ => rfl)))
      (pss_cons (ps_asg (pe_slice sl_list (pv 3) (po_some pe_int) po_none) (pg_sub (pe_fld (pe_ix ix_list (pe_fld (pv 0) rfl) (pv 1) (fun _ _ => rfl)) rfl) (pv 2) set_list))
      (pss_cons (ps_expr (fn_meth Gp T.cl_L T.m_L_put hr (pv 0) (pa_cons (pv 1) (pa_cons (pe_ix ix_tup (pe_glob (v := .ref A.t_CREDITS) rfl T.v_CREDITS rfl) (pv 2) (fun _ _ => rfl)) (pa_cons pe_non pa_nil)))))
      (pss_one (ps_ret (pv 4)))))), ?_⟩
    have e := c.e s
    obtain ⟨vs, hv, cin⟩ := e.i.b kk
    rw [hin] at hv
    cases hv with
    | @cons _ y _ ys hy hys =>
    refine ⟨_, rfl, p, _, x.dx, _, _, rfl, c.o.h, T.cl_L, T.a_L_ends, linkF_ends, _, rfl, x.ae, _, _, _, rfl, rfl, SqL.of c.en.h, at2 (f := fun z => .ref (x.aE z)) s, ?_⟩
    refine ⟨x.aE s, _, (x.ea s).dx, _, _, rfl, e.o.h, T.cl_E, T.a_E_inboxes, endF_inboxes, _, rfl, (x.ea s).ai, _, _, _, rfl, rfl, SqL.of e.i.l.h, at2 (f := fun z => .ref ((x.ea s).aI z)) kk, ?_⟩
    refine ⟨_, rfl, (x.ea s).aI kk, _, 0, y, rfl, rfl, SqL.of cin.h, atI_nat (j := 0) rfl, ?_⟩
    -- inboxes[kind] = own[1:]
    refine ⟨_, rfl, _, rfl, (x.ea s).aI kk, _, rfl, SqL.of cin.h, fun q hq => ?_⟩
    have ecut : cutV (y :: ys) (some 1) none = ys := by
      unfold cutV
      have e1 : HT.sIx (y :: ys).length 0 (some 1) = 1 := by
        refine (HT.sIx_nat _ _ 1).trans ?_
        rw [List.length_cons]; omega
      rw [e1, HT.sIx_none]
      show List.take (ys.length + 1 - 1) ys = ys
      rw [Nat.add_sub_cancel, List.take_length]
    rw [ecut]
    have s1 : Stp (eS π s) ρ _ H _ := (Stp.refl ht).cell (x := (π, .inn s kk)) (o := .lst ys) hq trivial
    have m1 : Mv K (fun _ => True) ρ _ H _ := Mv.cell (x := (π, .inn s kk)) (o := .lst ys) ht hq
    have c1 := c.mv (m1.mono fun _ _ => trivial)
    have e1 := c1.e s
    refine ⟨_, rfl, p, _, x.dx, _, _, rfl, c1.o.h, T.cl_L, T.a_L_ends, linkF_ends, _, rfl, x.ae, _, _, _, rfl, rfl, SqL.of c1.en.h, at2 (f := fun z => .ref (x.aE z)) s, ?_⟩
    refine ⟨x.aE s, _, (x.ea s).dx, _, _, rfl, e1.o.h, T.cl_E, T.a_E_inboxes, endF_inboxes, _, rfl, (x.ea s).ai, _, _, bN kk, rfl, rfl, e1.i.l.h, ixN2 (f := fun z => .ref ((x.ea s).aI z)) kk, ?_⟩
    have es : [V.ref ((x.ea s).aI false), V.ref ((x.ea s).aI true)].set (bN kk) (V.ref q) = [V.ref (upB (x.ea s).aI kk q false), V.ref (upB (x.ea s).aI kk q true)] := by
      cases kk <;> rfl
    rw [es]
    have s2 := s1.wr (o := .lst [V.ref (upB (x.ea s).aI kk q false), V.ref (upB (x.ea s).aI kk q true)]) e1.i.l.r (eS_mk (by simp [ofE])) trivial
    have m2 : Mv K (eN π s (.inbs s)) _ _ _ (upd _ (x.ea s).ai (.lst [V.ref (upB (x.ea s).aI kk q false), V.ref (upB (x.ea s).aI kk q true)])) := Mv.wr e1.i.l.r e1.i.l.h trivial (fun z => z rfl)
    have hinn : ((m.e s).setInn kk ((m.e s).inn kk).tail).inn = upB (m.e s).inn kk l := by
      show upB (m.e s).inn kk ((m.e s).inn kk).tail = _
      rw [hin]; rfl
    have e2 : EndIs K A.c_E (gset ρ q (π, .inn s kk)) (upd (upd H q (.lst ys)) (x.ea s).ai (.lst [V.ref (upB (x.ea s).aI kk q false), V.ref (upB (x.ea s).aI kk q true)])) π s (x.aE s) ((m.e s).setInn kk ((m.e s).inn kk).tail) { x.ea s with aI := upB (x.ea s).aI kk q } := by
      refine ⟨m2.c _ _ _ (by intro z; cases z) e1.o, m2.c _ _ _ (by intro z; cases z) e1.c, ⟨Cel.set e1.i.l.r, fun j => ?_⟩, fun g => (e1.h g).mv m2 (by intro z; cases z) (fun _ => by intro z; cases z) fun _ _ => by intro z; cases z⟩
      rw [hinn]
      show CelP K _ _ (π, .inn s j) (upB (x.ea s).aI kk q j) (upB (m.e s).inn kk l j)
      by_cases hj : j = kk
      · subst hj
        rw [upB_same, upB_same]
        exact ⟨ys, hys.mono (fun _ _ z => (z.tst m1.t).tst m2.t), m2.c _ _ _ (by intro z; cases z) (show Cel (gset ρ q (π, .inn s j)) (upd H q (.lst ys)) (π, .inn s j) q (.lst ys) from Cel.made)⟩
      · rw [upB_ne hj, upB_ne hj]
        exact (e1.i.b j).mv m2 (by intro z; cases z)
    have c2 := c.setE s2 e2
    have hy2 := (hy.tst m1.t).tst m2.t
    refine ⟨_, rfl, p, x.dx, _, rfl, c2.o.h, linkF_no (by decide +kernel), _, rfl, _, rfl, A.t_CREDITS, _, _, _, rfl, rfl, T.w_CREDITS.at _, at_credits kk, ?_⟩
    have hbi : EBd n ((m.e s).setInn kk ((m.e s).inn kk).tail) := by
      have b := hb.e s
      refine ⟨fun j => ?_, b.h, b.r, b.ne⟩
      rw [hinn]
      show (upB (m.e s).inn kk l j).length ≤ n
      unfold upB
      split
      · have := b.i kk
        rw [hin, List.length_cons] at this
        omega
      · exact b.i j
    refine ⟨_, π, p, _, _, s, .credit kk, .non, n, rfl, s2.trk, c2, rfl, hb.setE hbi, by omega, fun H3 s3 c3 => ?_⟩
    have s13 : Stp (lS π) ρ _ H H3 := (s2.mono eS_lS).trans (s3.mono fun z hz => by rw [hz]; rfl)
    exact ⟨_, rfl, k _ H3 y s13 ⟨_, c3⟩ (hy2.tst s3.tst)⟩
theorem ok_L_reset (T : Txt K mg A) : Ok P w K mg base CX0 2 A.f_L_reset p_L_reset (spReset K A) := by
  have Gc := ok_E_clear (P := P) (w := w) (base := base) T
  have Gp := ok_L_put (P := P) (w := w) (base := base) T
  refine ok_of T.F_L_reset sc_L_reset (fun vs H Q E h => ?_) (fun cdv A' outer s H vs Q E hr h => ?_)
  · obtain ⟨ρ, π, p, m, s, n, rfl, _⟩ := h
    rfl
  · obtain ⟨ρ, π, p, m, s, n, rfl, ht, ⟨x, c⟩, hb, hn, k⟩ := h
    obtain ⟨uR, hR, rR⟩ := T.v_RESET
    refine ⟨_, pss_cons (ps_set (i := 2) sc_L_reset.nd rfl (Or.inl rfl) (pe_ix ix_list (pe_fld (pv 0) rfl) (pv 1) (fun _ _ => rfl)))
      (pss_one (ps_if (pt_not (pt_val (pe_fld (pv 2) rfl)))
        (pss_cons (ps_expr (fn_meth0 Gc T.cl_E T.m_E_clear hr (pv 2)))
        (pss_cons (ps_expr (fn_meth Gp T.cl_L T.m_L_put hr (pv 0) (pa_cons (pv 1) (pa_cons (pe_glob rfl hR rR) (pa_cons pe_non pa_nil)))))
        (pss_one (ps_fld (pv 2) pe_bl rfl)))) pss_nil)), ?_⟩
    have e := c.e s
    refine ⟨_, rfl, p, _, x.dx, _, _, rfl, c.o.h, T.cl_L, T.a_L_ends, linkF_ends, _, rfl, x.ae, _, _, _, rfl, rfl, SqL.of c.en.h, at2 (f := fun z => .ref (x.aE z)) s, ?_⟩
    refine ⟨_, rfl, x.aE s, _, (x.ea s).dx, _, _, rfl, e.o.h, T.cl_E, T.a_E_waits, endF_waits, _, rfl, ?_⟩
    unfold ML.reset at k
    cases hw : (m.e s).waits with
    | true =>
      rw [hw] at k
      exact k ρ H (Stp.refl ht) ⟨x, c⟩
    | false =>
      rw [hw] at k
      refine ⟨_, rfl, x.aE s, (x.ea s).dx, _, rfl, e.o.h, endF_no (by decide +kernel), ρ, π, s, x.aE s, m.e s, rfl, ht, ⟨x.ea s, e⟩, fun ρ1 H1 s1 ⟨z1, e1⟩ => ?_⟩
      have c1 := c.setE s1 e1
      have hb1 : Bd n (m.setE s (m.e s).clear) := hb.setE ⟨fun _ => Nat.zero_le _, (hb.e s).h, (hb.e s).r, (hb.e s).ne⟩
      refine ⟨_, rfl, p, x.dx, _, rfl, c1.o.h, linkF_no (by decide +kernel), _, rfl, ?_⟩
      refine ⟨ρ1, π, p, _, _, s, .reset, .non, n, rfl, s1.trk, c1, rfl, hb1, by omega, fun H2 s2 c2 => ?_⟩
      have e2 := c2.e s
      have ez : ((m.setE s (m.e s).clear).put s .reset).e s = (m.e s).clear := upB_same
      rw [ez] at e2
      have exz : ({ x with ea := upB x.ea s z1 } : LA).ea s = z1 := upB_same
      rw [exz] at e2
      refine ⟨_, rfl, x.aE s, _, z1.dx, _, rfl, e2.o.h, T.cl_E, T.a_E_waits, endF_len, ?_⟩
      rw [endF_pwaits]
      have s3 : Stp (eS π s) ρ1 ρ1 H2 (upd H2 (x.aE s) (.ins A.c_E z1.dx (endF true z1.ac z1.ai (m.e s).clear.resets (z1.ah false) (z1.ah true)))) := (Stp.refl s2.trk).wr e2.o.r (eS_mk (by simp [ofE])) trivial
      have m3 : Mv K (eN π s (.eobj s)) ρ1 ρ1 H2 (upd H2 (x.aE s) (.ins A.c_E z1.dx (endF true z1.ac z1.ai (m.e s).clear.resets (z1.ah false) (z1.ah true)))) := Mv.wr e2.o.r e2.o.h trivial (fun z => z rfl)
      have e3 : EndIs K A.c_E ρ1 _ π s (x.aE s) ((m.e s).clear.setWaits true) z1 := ⟨Cel.set e2.o.r, m3.c _ _ _ (by intro z; cases z) e2.c, e2.i.mv m3 (by intro z; cases z) (fun _ => by intro z; cases z), fun g => (e2.h g).mv m3 (by intro z; cases z) (fun _ => by intro z; cases z) fun _ _ => by intro z; cases z⟩
      have c3 := c2.setE s3 e3
      have s13 := ((s1.mono eS_lS).trans (s2.mono fun z hz => by rw [hz]; rfl)).trans (s3.mono eS_lS)
      have em : ((m.setE s (m.e s).clear).put s .reset).setE s ((m.e s).clear.setWaits true) = (m.setE s ((m.e s).clear.setWaits true)).put s .reset := by
        rw [← setE_setE m s (m.e s).clear ((m.e s).clear.setWaits true)]; rfl
      rw [em] at c3
      exact k _ _ s13 ⟨_, c3⟩
end
end Rl
end
section
set_option Elab.async false
set_option linter.all false
set_option maxRecDepth 100000
set_option maxHeartbeats 4000000
/-! RlLk3: Link.arrive. -/
namespace Rl
open PySem PySem.Spec PyProof.Rows L2

theorem cutV_tail (y : V) (ys : List V) : cutV (y :: ys) (some 1) none = ys := by
  unfold cutV
  have e1 : HT.sIx (y :: ys).length 0 (some 1) = 1 := by
    refine (HT.sIx_nat _ _ 1).trans ?_
    rw [List.length_cons]; omega
  rw [e1, HT.sIx_none]
  show List.take (ys.length + 1 - 1) ys = ys
  rw [Nat.add_sub_cancel, List.take_length]
theorem ML.setQ_e (m : ML) (s t : Bool) (l : List Itm) : (m.setQ s l).e t = m.e t := rfl
theorem Bd.setQ {n : Nat} {m : ML} {s : Bool} {l : List Itm} (b : Bd n m) (h : l.length ≤ n) : Bd n (m.setQ s l) := .of (fun d => by
  show (upB m.q s l d).length ≤ n
  unfold upB
  split
  · exact h
  · exact b.q d) b.e

theorem in_pk (u : Bool) : inV (.str (nKind u)) [.str ("data" : Str), .str "urgent"] = true := by cases u <;> decide
theorem in_cr (u : Bool) : inV (.str (cKind u)) [.str ("data" : Str), .str "urgent"] = false := by cases u <;> decide
theorem mark_or {i : Itm} (h : isMark i = true) : decide (V.str (kindS i) = V.str "reset") = true ∨ (decide (V.str (kindS i) = V.str "reset") = false ∧ decide (V.str (kindS i) = V.str "confirm") = true) := by
  cases i with
  | data u p => cases h
  | credit u => cases h
  | reset => exact .inl (by decide)
  | confirm => exact .inr (by decide)
theorem mark_no {i : Itm} (h : ¬ isMark i = true) : decide (V.str (kindS i) = V.str "reset") = false ∧ decide (V.str (kindS i) = V.str "confirm") = false := by
  cases i with
  | data u p =>
    show decide (V.str (nKind u) = V.str "reset") = false ∧ decide (V.str (nKind u) = V.str "confirm") = false
    cases u <;> decide
  | credit u =>
    show decide (V.str (cKind u) = V.str "reset") = false ∧ decide (V.str (cKind u) = V.str "confirm") = false
    cases u <;> decide
  | reset => exact absurd rfl h
  | confirm => exact absurd rfl h
section
variable {P : Program} {w : World} {K : PySem.W.Frag} {mg : Str → Option Value} {base : Heap} {A : Adr}
theorem LinkIs.setQ {ρ ρ' : Gh} {H H' : Hp} {π : Pth} {p : Addr} {m : ML} {x : LA} {d : Bool} {l : List Itm} {q : Addr} (c : LinkIs K A ρ H π p m x)
    (v : Mv K (fun z => z ≠ (π, .ques)) ρ ρ' H H') (hq : Cel ρ' H' (π, .ques) x.aq (.lst [.ref (upB x.aQ d q false), .ref (upB x.aQ d q true)])) (hn : CelI K ρ' H' (π, .que d) q l) :
    LinkIs K A ρ' H' π p (m.setQ d l) { x with aQ := upB x.aQ d q } := by
  refine ⟨v.c _ _ _ (by intro z; cases z) c.o, v.c _ _ _ (by intro z; cases z) c.en, hq, fun t => ?_, fun t => (c.e t).mv (v.mono fun z hz e => by
    rw [e] at hz
    exact absurd hz.2 (by simp [ofE]))⟩
  show CelI K ρ' H' (π, .que t) (upB x.aQ d q t) (upB m.q d l t)
  by_cases h : t = d
  · subst h
    rw [upB_same, upB_same]
    exact hn
  · rw [upB_ne h, upB_ne h]
    exact (c.q t).mv v (by intro z; cases z)
theorem ok_L_arrive (T : Txt K mg A) : Ok P w K mg base CX0 2 A.f_L_arrive p_L_arrive (spArrive K A) := by
  have Gp := ok_L_put (P := P) (w := w) (base := base) T
  have Gc := ok_E_clear (P := P) (w := w) (base := base) T
  have Ga := ok_E_anew (P := P) (w := w) (base := base) T
  have Gn := ok_E_note (P := P) (w := w) (base := base) T
  refine ok_of T.F_L_arrive sc_L_arrive (fun vs H Q E h => ?_) (fun cdv A' outer s H vs Q E hr h => ?_)
  · obtain ⟨ρ, π, p, m, s, i, l, n, rfl, _⟩ := h
    rfl
  · obtain ⟨ρ, π, p, m, s, i, l, n, rfl, ht, ⟨x, c⟩, hqi, hb, hn, k⟩ := h
    obtain ⟨uR, hR, rR⟩ := T.v_RESET
    obtain ⟨uC, hC, rC⟩ := T.v_CONFIRM
    refine ⟨_, pss_cons (ps_asg (pe_ix ix_list (pe_ix ix_list (pe_fld (pv 0) rfl) (pv 1) (fun _ _ => rfl)) pe_int (fun _ _ => rfl)) (pg_tup rfl (pgs_cons (pg_name (i := 2) sc_L_arrive.nd rfl (Or.inl rfl)) (pgs_cons (pg_name (i := 3) sc_L_arrive.nd rfl (Or.inl rfl)) pgs_nil))))
      (pss_cons (ps_asg (pe_slice sl_list (pe_ix ix_list (pe_fld (pv 0) rfl) (pv 1) (fun _ _ => rfl)) (po_some pe_int) po_none) (pg_sub (pe_fld (pv 0) rfl) (pv 1) set_list))
      (pss_cons (ps_set (i := 4) sc_L_arrive.nd rfl (Or.inl rfl) (pe_ix ix_list (pe_fld (pv 0) rfl) (pv 1) (fun _ _ => rfl)))
      (pss_cons (ps_if (PW.pt (pw_or (pt_cmpR op_eq (pv 2) (pe_glob rfl hR rR) (nomark _)) (pw_or1 (pt_cmpR op_eq (pv 2) (pe_glob rfl hC rC) (nomark _)))))
        (pss_cons (ps_set (i := 5) sc_L_arrive.nd rfl (Or.inl rfl) (pe_not (pe_fld (pv 4) rfl)))
        (pss_cons (ps_if (pt_val (pv 5))
          (pss_cons (ps_expr (fn_meth Gp T.cl_L T.m_L_put hr (pv 0) (pa_cons (pv 1) (pa_cons (pe_glob rfl hC rC) (pa_cons pe_non pa_nil)))))
          (pss_one (ps_expr (fn_meth0 Gc T.cl_E T.m_E_clear hr (pv 4))))) pss_nil)
        (pss_cons (ps_expr (fn_meth0 Ga T.cl_E T.m_E_anew hr (pv 4)))
        (pss_one (ps_ret (pe_tup (pa_cons (pv 2) (pa_cons (pv 5) pa_nil))))))))
        pss_nil)
      (pss_cons (ps_if (pt_not (pt_val (pe_fld (pv 4) rfl)))
        (pss_one (ps_if (pt_cmpR op_in_seq (pv 2) (pe_glob (v := .ref A.t_PACKETS) rfl T.v_PACKETS rfl) (by with_unfolding_all rfl))
          (pss_cons (ps_set (i := 6) sc_L_arrive.nd rfl (Or.inl rfl) (pe_bm PySem.F.plainAttrs_tuple PySem.F.slot_tuple_index rfl mt_tup_index (pe_glob (v := .ref A.t_PACKETS) rfl T.v_PACKETS rfl) (pa_cons (pv 2) pa_nil)))
          (pss_cons (ps_asg (pe_op op_cat (pe_ix ix_list (pe_fld (pv 4) rfl) (pv 6) (fun _ _ => rfl)) (pe_lst (pa_cons (pv 3) pa_nil))) (pg_sub (pe_fld (pv 4) rfl) (pv 6) set_list))
          (pss_one (ps_expr (fn_meth Gn T.cl_E T.m_E_note hr (pv 4) (pa_cons (pe_fld (pv 4) rfl) (pa_cons (pv 6) (pa_cons (pv 3) pa_nil))))))))
          (pss_one (ps_augS (pe_fld (pv 4) rfl) (pe_bm PySem.F.plainAttrs_tuple PySem.F.slot_tuple_index rfl mt_tup_index (pe_glob (v := .ref A.t_CREDITS) rfl T.v_CREDITS rfl) (pa_cons (pv 2) pa_nil)) get_list pe_int ip_sub set_list))))
        pss_nil)
      (pss_one (ps_ret (pe_tup (pa_cons (pv 2) (pa_cons pe_bl pa_nil))))))))), ?_⟩
    obtain ⟨vs, hv, cq⟩ := c.q s
    rw [hqi] at hv
    cases hv with
    | @cons _ y0 _ ys hy hys =>
    obtain ⟨t0, y, rfl, ht0, hit⟩ := hy
    -- kind, packet = queues[side][0]
    refine ⟨_, rfl, p, _, x.dx, _, _, rfl, c.o.h, T.cl_L, T.a_L_queues, linkF_queues, _, rfl, x.aq, _, _, _, rfl, rfl, SqL.of c.qu.h, at2 (f := fun z => .ref (x.aQ z)) s, ?_⟩
    refine ⟨x.aQ s, _, 0, .ref t0, rfl, rfl, SqL.of cq.h, atI_nat (j := 0) rfl, t0, _, rfl, ht0, rfl, _, _, rfl, _, _, rfl, rfl, ?_⟩
    -- queues[side] = queues[side][1:]
    refine ⟨_, rfl, p, _, x.dx, _, _, rfl, c.o.h, T.cl_L, T.a_L_queues, linkF_queues, _, rfl, x.aq, _, _, _, rfl, rfl, SqL.of c.qu.h, at2 (f := fun z => .ref (x.aQ z)) s, ?_⟩
    refine ⟨_, rfl, x.aQ s, _, rfl, SqL.of cq.h, fun q hq => ?_⟩
    rw [cutV_tail]
    have s1 : Stp (lS π) ρ _ H _ := (Stp.refl ht).cell (x := (π, .que s)) (o := .lst ys) hq trivial
    have m1 : Mv K (fun _ => True) ρ _ H _ := Mv.cell (x := (π, .que s)) (o := .lst ys) ht hq
    have c1 := c.mv (m1.mono fun _ _ => trivial)
    refine ⟨_, rfl, p, _, x.dx, _, _, rfl, c1.o.h, T.cl_L, T.a_L_queues, linkF_queues, _, rfl, x.aq, _, _, bN s, rfl, rfl, c1.qu.h, ixN2 (f := fun z => .ref (x.aQ z)) s, ?_⟩
    have es : [V.ref (x.aQ false), V.ref (x.aQ true)].set (bN s) (V.ref q) = [V.ref (upB x.aQ s q false), V.ref (upB x.aQ s q true)] := by
      cases s <;> rfl
    rw [es]
    have s2 := s1.wr (o := .lst [V.ref (upB x.aQ s q false), V.ref (upB x.aQ s q true)]) c1.qu.r rfl trivial
    have m2 : Mv K (fun z => z ≠ (π, .ques)) _ _ _ (upd _ x.aq (.lst [V.ref (upB x.aQ s q false), V.ref (upB x.aQ s q true)])) := Mv.wr c1.qu.r c1.qu.h trivial (fun z => z rfl)
    have c2 : LinkIs K A (gset ρ q (π, .que s)) (upd (upd H q (.lst ys)) x.aq (.lst [V.ref (upB x.aQ s q false), V.ref (upB x.aQ s q true)])) π p (m.setQ s l) { x with aQ := upB x.aQ s q } :=
      c1.setQ m2 (Cel.set c1.qu.r) ⟨ys, ItAll.tst m2.t (ItAll.tst m1.t hys), m2.c _ _ _ (by intro z; cases z) (show Cel (gset ρ q (π, .que s)) (upd H q (.lst ys)) (π, .que s) q (.lst ys) from Cel.made)⟩
    have hit2 := (hit.tst m1.t).tst m2.t
    have hb2 : Bd n (m.setQ s l) := hb.setQ (by have := hb.q s; rw [hqi, List.length_cons] at this; omega)
    have karr : m.arrive s = (m.setQ s l).come s i := by unfold ML.arrive; rw [hqi]
    rw [karr] at k
    clear karr cq c1 c hb hqi hys ht0 hit
    generalize m.setQ s l = m' at c2 hb2 k
    generalize ({ x with aQ := upB x.aQ s q } : LA) = x' at c2
    have ht2 := s2.trk
    revert s2 hit2 c2 ht2
    generalize upd (upd H q (.lst ys)) x.aq (.lst [V.ref (upB x.aQ s q false), V.ref (upB x.aQ s q true)]) = H2
    generalize gset ρ q (π, .que s) = ρ2
    intro s2 hit2 c2 ht2
    have e := c2.e s
    -- end = ends[side]
    refine ⟨_, rfl, p, _, x'.dx, _, _, rfl, c2.o.h, T.cl_L, T.a_L_ends, linkF_ends, _, rfl, x'.ae, _, _, _, rfl, rfl, SqL.of c2.en.h, at2 (f := fun z => .ref (x'.aE z)) s, ?_⟩
    -- kind == RESET or kind == CONFIRM
    refine ⟨_, rfl, rfl, _, rfl, ?_⟩
    by_cases hi : isMark i = true
    · have hc : m'.come s i = if (m'.e s).waits then (m'.setE s (m'.e s).anew, false) else ((m'.setE s (m'.e s).clear.anew).put s .confirm, true) := by
        cases i with
        | data u p => cases hi
        | credit u => cases hi
        | reset => rfl
        | confirm => rfl
      rw [hc] at k
      rcases mark_or hi with h1 | ⟨h1, h2⟩
      case' inl =>
        refine if_yes h1 ?_
        refine if_yes rfl ?_
      case' inr =>
        refine if_no h1 ?_
        refine ⟨_, rfl, rfl, _, rfl, ?_⟩
        refine if_yes h2 ?_
      all_goals
        refine ⟨_, rfl, x'.aE s, _, (x'.ea s).dx, _, _, rfl, e.o.h, T.cl_E, T.a_E_waits, endF_waits, _, rfl, ?_⟩
        refine ⟨_, rfl, _, rfl, ?_⟩
        cases hw : (m'.e s).waits with
        | true =>
          rw [hw] at k
          refine if_no rfl ?_
          refine ⟨_, rfl, x'.aE s, (x'.ea s).dx, _, rfl, e.o.h, endF_no (by decide +kernel), ρ2, π, s, x'.aE s, m'.e s, n, rfl, ht2, ⟨x'.ea s, e⟩, hb2.e s, by omega, fun ρ3 H3 s3 ⟨z3, e3⟩ => ?_⟩
          have c3 := c2.setE s3 e3
          refine ⟨_, rfl, _, rfl, two_le, fun t htt => ?_⟩
          exact k _ _ t ((s2.trans (s3.mono eS_lS)).new htt) ⟨_, c3.mv (Mv.new htt)⟩ upd_same
        | false =>
          rw [hw] at k
          refine if_yes rfl ?_
          refine ⟨_, rfl, p, x'.dx, _, rfl, c2.o.h, linkF_no (by decide +kernel), _, rfl, ρ2, π, p, _, _, s, .confirm, .non, n, rfl, ht2, c2, rfl, hb2, by omega, fun H3 s3 c3 => ?_⟩
          have e3 := c3.e s
          refine ⟨_, rfl, x'.aE s, (x'.ea s).dx, _, rfl, e3.o.h, endF_no (by decide +kernel), ρ2, π, s, x'.aE s, m'.e s, rfl, s3.trk, ⟨x'.ea s, e3⟩, fun ρ4 H4 s4 ⟨z4, e4⟩ => ?_⟩
          have c4 := c3.setE s4 e4
          have e4' := c4.e s
          have ez : ((m'.put s .confirm).setE s (m'.e s).clear).e s = (m'.e s).clear := upB_same
          rw [ez] at e4'
          refine ⟨_, rfl, x'.aE s, _, _, rfl, e4'.o.h, endF_no (by decide +kernel), ρ4, π, s, x'.aE s, (m'.e s).clear, n, rfl, s4.trk, ⟨_, e4'⟩, ⟨fun _ => Nat.zero_le _, (hb2.e s).h, (hb2.e s).r, (hb2.e s).ne⟩, by omega, fun ρ5 H5 s5 ⟨z5, e5⟩ => ?_⟩
          have c5 := c4.setE s5 e5
          have em : ((m'.put s .confirm).setE s (m'.e s).clear).setE s (m'.e s).clear.anew = (m'.setE s (m'.e s).clear.anew).put s .confirm := by
            rw [setE_setE]; rfl
          rw [em] at c5
          have s15 := ((s2.trans (s3.mono fun z hz => by rw [hz]; rfl)).trans (s4.mono eS_lS)).trans (s5.mono eS_lS)
          refine ⟨_, rfl, _, rfl, two_le, fun t htt => ?_⟩
          exact k _ _ t (s15.new htt) ⟨_, c5.mv (Mv.new htt)⟩ upd_same
    · have hn1 : decide (V.str (kindS i) = V.str "reset") = false ∧ decide (V.str (kindS i) = V.str "confirm") = false := mark_no hi
      refine if_no hn1.1 ?_
      refine ⟨_, rfl, rfl, _, rfl, ?_⟩
      refine if_no hn1.2 ?_
      refine ⟨_, rfl, x'.aE s, _, (x'.ea s).dx, _, _, rfl, e.o.h, T.cl_E, T.a_E_waits, endF_waits, _, rfl, ?_⟩
      cases hw : (m'.e s).waits with
      | true =>
        have hc : m'.come s i = (m', false) := by
          cases i with
          | data u p => unfold ML.come; dsimp only; rw [hw]; rfl
          | credit u => unfold ML.come; dsimp only; rw [hw]; rfl
          | reset => exact absurd rfl hi
          | confirm => exact absurd rfl hi
        rw [hc] at k
        refine if_no rfl ?_
        refine ⟨_, rfl, two_le, fun t htt => ?_⟩
        exact k _ _ t (s2.new htt) ⟨_, c2.mv (Mv.new htt)⟩ upd_same
      | false =>
        refine if_yes rfl ?_
        cases i with
        | reset => exact absurd rfl hi
        | confirm => exact absurd rfl hi
        | data u pk =>
          have hc : m'.come s (.data u pk) = (m'.setE s (((m'.e s).setInn u ((m'.e s).inn u ++ [pk])).note true u pk), false) := by
            unfold ML.come; dsimp only; rw [hw]; rfl
          rw [hc] at k
          refine ⟨_, rfl, A.t_PACKETS, _, rfl, .inr (T.w_PACKETS.at _), rfl, rfl, _, rfl, ?_⟩
          refine if_yes (in_pk u) ?_
          refine ⟨.inr (.inl ⟨rfl, T.w_PACKETS.ty⟩), _, rfl, A.t_PACKETS, ["data", "urgent"], nKind u, bN u, rfl, rfl, T.w_PACKETS.at _, by cases u <;> rfl, by cases u <;> decide, ?_⟩
          rw [← bI_eq]
          obtain ⟨vs, hv, ci⟩ := e.i.b u
          refine ⟨_, rfl, x'.aE s, _, (x'.ea s).dx, _, _, rfl, e.o.h, T.cl_E, T.a_E_inboxes, endF_inboxes, _, rfl, (x'.ea s).ai, _, _, _, rfl, rfl, SqL.of e.i.l.h, at2 (f := fun z => .ref ((x'.ea s).aI z)) u, ?_⟩
          refine ⟨_, rfl, sz_le (show 1 ≤ 16000000 by decide), fun b1 hb1 => ?_⟩
          have ci1 := ci.new (u := .lst [y]) hb1
          have hlen : vs.length + 1 ≤ sizeLine := by
            have q1 := hv.length
            have q2 := hb2.i s u
            exact sz_le (by omega)
          refine ⟨(x'.ea s).aI u, b1, vs, [y], rfl, rfl, ci1.h, upd_same, hlen, fun q1 hq1 => ?_⟩
          have s3 : Stp (eS π s) ρ2 _ H2 _ := ((Stp.refl ht2).new (o := .lst [y]) hb1).cell (x := (π, .inn s u)) (o := .lst (vs ++ [y])) hq1 trivial
          have m3a : Mv K (fun _ => True) ρ2 ρ2 H2 _ := Mv.new (o := .lst [y]) hb1
          have m3b : Mv K (fun _ => True) ρ2 _ _ _ := Mv.cell (x := (π, .inn s u)) (o := .lst (vs ++ [y])) ((Stp.refl (S := eS π s) ht2).new (o := .lst [y]) hb1).trk hq1
          have m3 := m3a.trans m3b
          have c3 := c2.mv (m3.mono fun _ _ => trivial)
          have e3 := c3.e s
          refine ⟨_, rfl, x'.aE s, _, (x'.ea s).dx, _, _, rfl, e3.o.h, T.cl_E, T.a_E_inboxes, endF_inboxes, _, rfl, (x'.ea s).ai, _, _, bN u, rfl, rfl, e3.i.l.h, ixN2 (f := fun z => .ref ((x'.ea s).aI z)) u, ?_⟩
          have es1 : [V.ref ((x'.ea s).aI false), V.ref ((x'.ea s).aI true)].set (bN u) (V.ref q1) = [V.ref (upB (x'.ea s).aI u q1 false), V.ref (upB (x'.ea s).aI u q1 true)] := by
            cases u <;> rfl
          rw [es1]
          have s4 := s3.wr (o := .lst [V.ref (upB (x'.ea s).aI u q1 false), V.ref (upB (x'.ea s).aI u q1 true)]) e3.i.l.r (eS_mk (by simp [ofE])) trivial
          have m4 : Mv K (eN π s (.inbs s)) _ _ _ (upd _ (x'.ea s).ai (.lst [V.ref (upB (x'.ea s).aI u q1 false), V.ref (upB (x'.ea s).aI u q1 true)])) := Mv.wr e3.i.l.r e3.i.l.h trivial (fun z => z rfl)
          have hinn : ((m'.e s).setInn u ((m'.e s).inn u ++ [pk])).inn = upB (m'.e s).inn u ((m'.e s).inn u ++ [pk]) := rfl
          have e4 : EndIs K A.c_E (gset ρ2 q1 (π, .inn s u)) (upd (upd (upd H2 b1 (.lst [y])) q1 (.lst (vs ++ [y]))) (x'.ea s).ai (.lst [V.ref (upB (x'.ea s).aI u q1 false), V.ref (upB (x'.ea s).aI u q1 true)])) π s (x'.aE s) ((m'.e s).setInn u ((m'.e s).inn u ++ [pk])) { x'.ea s with aI := upB (x'.ea s).aI u q1 } := by
            refine ⟨m4.c _ _ _ (by intro z; cases z) e3.o, m4.c _ _ _ (by intro z; cases z) e3.c, ⟨Cel.set e3.i.l.r, fun j => ?_⟩, fun g => (e3.h g).mv m4 (by intro z; cases z) (fun _ => by intro z; cases z) fun _ _ => by intro z; cases z⟩
            rw [hinn]
            show CelP K _ _ (π, .inn s j) (upB (x'.ea s).aI u q1 j) (upB (m'.e s).inn u ((m'.e s).inn u ++ [pk]) j)
            by_cases hj : j = u
            · subst hj
              rw [upB_same, upB_same]
              refine ⟨vs ++ [y], PySem.Paired.app (PkAll.tst (m3.t.trans m4.t) hv) (.cons (PkAt.tst (m3.t.trans m4.t) hit2) .nil), m4.c _ _ _ (by intro z; cases z) (show Cel (gset ρ2 q1 (π, .inn s j)) (upd (upd H2 b1 (.lst [y])) q1 (.lst (vs ++ [y]))) (π, .inn s j) q1 (.lst (vs ++ [y])) from Cel.made)⟩
            · rw [upB_ne hj, upB_ne hj]
              exact (e3.i.b j).mv m4 (by intro z; cases z)
          have hbe : EBd (n + 1) ((m'.e s).setInn u ((m'.e s).inn u ++ [pk])) := by
            have b := hb2.e s
            refine ⟨fun j => ?_, fun g j => Nat.le_succ_of_le (b.h g j), fun g j z hz => Nat.le_succ_of_le (b.r g j z hz), b.ne⟩
            rw [hinn]
            show (upB (m'.e s).inn u ((m'.e s).inn u ++ [pk]) j).length ≤ n + 1
            unfold upB
            split
            · rw [List.length_append, List.length_singleton]
              have := b.i u
              omega
            · exact Nat.le_succ_of_le (b.i j)
          refine ⟨_, rfl, x'.aE s, (x'.ea s).dx, _, rfl, e4.o.h, endF_no (by decide +kernel), _, rfl, x'.aE s, _, (x'.ea s).dx, _, _, rfl, e4.o.h, T.cl_E, T.a_E_got, endF_got, _, rfl, _, rfl, ?_⟩
          refine ⟨_, π, s, true, u, x'.aE s, _, _, pk, y, n + 1, rfl, s4.trk, e4, PkAt.tst (m3.t.trans m4.t) hit2, hb2.ne s true u, hbe, by omega, fun H5 s5 e5 => ?_⟩
          have c5 := c2.setE (s4.trans s5) e5
          refine ⟨_, rfl, two_le, fun t htt => ?_⟩
          exact k _ _ t ((s2.trans ((s4.trans s5).mono eS_lS)).new htt) ⟨_, c5.mv (Mv.new htt)⟩ upd_same
        | credit u =>
          have hc : m'.come s (.credit u) = (m'.setE s ((m'.e s).addCnt u (-1)), false) := by
            unfold ML.come; dsimp only; rw [hw]; rfl
          rw [hc] at k
          refine ⟨_, rfl, A.t_PACKETS, _, rfl, .inr (T.w_PACKETS.at _), rfl, rfl, _, rfl, ?_⟩
          refine if_no (in_cr u) ?_
          refine ⟨_, rfl, x'.aE s, _, (x'.ea s).dx, _, _, rfl, e.o.h, T.cl_E, T.a_E_counts, endF_counts, .inr (.inl ⟨rfl, T.w_CREDITS.ty⟩), _, rfl, A.t_CREDITS, ["credit", "urgent credit"], cKind u, bN u, rfl, rfl, T.w_CREDITS.at _, by cases u <;> rfl, by cases u <;> decide, ?_⟩
          rw [← bI_eq]
          refine ⟨(x'.ea s).ac, _, bN u, _, rfl, by rw [bI_eq], by cases u <;> decide, SqL.of e.c.h, ix2 (f := fun z => .int ((m'.e s).cnt z)) u, _, _, rfl, rfl, ?_⟩
          refine ⟨(x'.ea s).ac, _, _, bN u, rfl, rfl, e.c.h, ixN2 (f := fun z => .int ((m'.e s).cnt z)) u, ?_⟩
          have es1 : [V.int ((m'.e s).cnt false), V.int ((m'.e s).cnt true)].set (bN u) (V.int ((m'.e s).cnt u - 1)) = [V.int (((m'.e s).addCnt u (-1)).cnt false), V.int (((m'.e s).addCnt u (-1)).cnt true)] := by
            cases u <;> rfl
          rw [es1]
          have s3 : Stp (eS π s) ρ2 ρ2 H2 _ := (Stp.refl ht2).wr (o := .lst [V.int (((m'.e s).addCnt u (-1)).cnt false), V.int (((m'.e s).addCnt u (-1)).cnt true)]) e.c.r (eS_mk (by simp [ofE])) trivial
          have m3 : Mv K (eN π s (.cnt s)) ρ2 ρ2 H2 (upd H2 (x'.ea s).ac (.lst [V.int (((m'.e s).addCnt u (-1)).cnt false), V.int (((m'.e s).addCnt u (-1)).cnt true)])) := Mv.wr e.c.r e.c.h trivial (fun z => z rfl)
          have e3 : EndIs K A.c_E ρ2 (upd H2 (x'.ea s).ac (.lst [V.int (((m'.e s).addCnt u (-1)).cnt false), V.int (((m'.e s).addCnt u (-1)).cnt true)])) π s (x'.aE s) ((m'.e s).addCnt u (-1)) (x'.ea s) :=
            ⟨m3.c _ _ _ (by intro z; cases z) e.o, Cel.set e.c.r, e.i.mv m3 (by intro z; cases z) (fun _ => by intro z; cases z), fun g => (e.h g).mv m3 (by intro z; cases z) (fun _ => by intro z; cases z) fun _ _ => by intro z; cases z⟩
          have c3 := c2.setE s3 e3
          refine ⟨_, rfl, two_le, fun t htt => ?_⟩
          exact k _ _ t ((s2.trans (s3.mono eS_lS)).new htt) ⟨_, c3.mv (Mv.new htt)⟩ upd_same
end
end Rl
end
section
set_option Elab.async false
set_option linter.all false
set_option maxRecDepth 100000
set_option maxHeartbeats 4000000
/-! RlC1: a circuit in the heap; how the lists of its links grow. -/
namespace Rl
open PySem PySem.Spec PyProof.Rows L2

/-! ### growth -/
theorem Bd.put {n : Nat} {m : ML} (b : Bd n m) (s : Bool) (i : Itm) : Bd (n + 1) (m.put s i) := by
  refine (b.mono (Nat.le_succ n)).setQ ?_
  rw [List.length_append, List.length_singleton]
  have := b.q (!s); omega
theorem EBd.setWaits {n : Nat} {e : ME} (b : EBd n e) (z : Bool) : EBd n (e.setWaits z) := ⟨b.i, b.h, b.r, b.ne⟩
theorem EBd.clear {n : Nat} {e : ME} (b : EBd n e) : EBd n e.clear := ⟨fun _ => Nat.zero_le _, b.h, b.r, b.ne⟩
theorem EBd.setInn {n j : Nat} {e : ME} (b : EBd n e) (k : Bool) {l : List Pk} (hj : n ≤ j) (h : l.length ≤ j) : EBd j (e.setInn k l) := by
  refine ⟨fun t => ?_, (b.mono hj).h, (b.mono hj).r, b.ne⟩
  show (upB e.inn k l t).length ≤ j
  unfold upB
  split
  · exact h
  · exact (b.mono hj).i t
theorem EBd.anew {n : Nat} {e : ME} (b : EBd n e) : EBd (n + 1) e.anew := by
  refine ⟨fun j => Nat.le_succ_of_le (b.i j), fun g k => ?_, fun g k l hl => ?_, fun g k z => ?_⟩
  · show (e.hist g k ++ [[]]).length ≤ n + 1
    rw [List.length_append, List.length_singleton]
    exact Nat.succ_le_succ (b.h g k)
  · have hl : l ∈ e.hist g k ++ [[]] := hl
    rcases List.mem_append.mp hl with q | q
    · exact Nat.le_succ_of_le (b.r g k l q)
    · rw [List.mem_singleton] at q
      subst q
      exact Nat.zero_le _
  · have := congrArg List.length (show e.hist g k ++ [[]] = [] from z)
    rw [List.length_append, List.length_singleton] at this
    cases this
theorem Bd.put' {n : Nat} {m : ML} (b : Bd n m) (s : Bool) (i : Itm) {e : ME} (h : EBd (n + 1) e) : Bd (n + 1) ((m.setE s e).put s i) := by
  refine .of (fun d => ?_) fun t => ?_
  · exact (b.put s i).q d
  · show EBd (n + 1) (upB m.e s e t)
    unfold upB
    split
    · exact h
    · exact (b.e t).mono (Nat.le_succ n)
theorem Bd.send {n : Nat} {m : ML} (b : Bd n m) (s k : Bool) (p : Pk) : Bd (n + 1) (m.send s k p) := b.put' s _ (((b.e s).addCnt k 1).note false k p)
theorem Bd.took {n : Nat} {m : ML} (b : Bd n m) (s k : Bool) : Bd (n + 1) (m.took s k) := b.put' s _ ((b.e s).setInn k (Nat.le_succ n) (by rw [List.length_tail]; have := (b.e s).i k; omega))
theorem Bd.reset {n : Nat} {m : ML} (b : Bd n m) (s : Bool) : Bd (n + 1) (m.reset s) := by
  unfold ML.reset
  split
  · exact b.mono (Nat.le_succ n)
  · exact b.put' s _ (((b.e s).clear.setWaits true).mono (Nat.le_succ n))
theorem Bd.come {n : Nat} {m : ML} (b : Bd n m) (s : Bool) (i : Itm) : Bd (n + 1) (m.come s i).1 := by
  have mark : ∀ {x : ML × Bool}, (if (m.e s).waits then (m.setE s (m.e s).anew, false) else ((m.setE s (m.e s).clear.anew).put s .confirm, true)) = x → Bd (n + 1) x.1 := by
    intro x h
    split at h
    · rw [← h]; exact (b.mono (Nat.le_succ n)).setE (b.e s).anew
    · rw [← h]; exact b.put' s _ (b.e s).clear.anew
  cases i with
  | reset => exact mark rfl
  | confirm => exact mark rfl
  | data k p =>
    show Bd (n + 1) (if (m.e s).waits then (m, false) else _).1
    split
    · exact b.mono (Nat.le_succ n)
    · refine (b.mono (Nat.le_succ n)).setE ?_
      have h1 : EBd (n + 1) (((m.e s).setInn k ((m.e s).inn k ++ [p]))) := (b.e s).setInn k (Nat.le_succ n) (by rw [List.length_append, List.length_singleton]; have := (b.e s).i k; omega)
      have h2 := ((b.e s).note true k p)
      exact ⟨h1.i, h2.h, h2.r, h2.ne⟩
  | credit k =>
    show Bd (n + 1) (if (m.e s).waits then (m, false) else _).1
    split
    · exact b.mono (Nat.le_succ n)
    · exact (b.mono (Nat.le_succ n)).setE (((b.e s).addCnt k (-1)).mono (Nat.le_succ n))
theorem Bd.arrive {n : Nat} {m : ML} (b : Bd n m) (s : Bool) : Bd (n + 1) (m.arrive s).1 := by
  unfold ML.arrive
  split
  · exact b.mono (Nat.le_succ n)
  · rename_i i r h
    exact (b.setQ (by have := b.q s; rw [h, List.length_cons] at this; omega)).come s i
def CBd (n : Nat) (L : List ML) : Prop := ∀ m ∈ L, Bd n m
theorem CBd.mono {n k : Nat} {L : List ML} (b : CBd n L) (h : n ≤ k) : CBd k L := fun m q => (b m q).mono h
theorem CBd.set {n : Nat} {L : List ML} (b : CBd n L) (i : Nat) {m : ML} (h : Bd n m) : CBd n (L.set i m) := fun x hx => by
  rcases List.mem_or_eq_of_mem_set hx with q | q
  · exact b x q
  · rw [q]; exact h
theorem at_get {L : List ML} {k : Nat} (h : k < L.length) : L[k]? = some (at_ L k) := by
  unfold at_
  rw [List.getD_eq_getElem?_getD, List.getElem?_eq_getElem h]; rfl
theorem CBd.at {n : Nat} {L : List ML} (b : CBd n L) {k : Nat} (h : k < L.length) : Bd n (at_ L k) := b _ (List.mem_of_getElem? (at_get h))
theorem CBd.setAt {n : Nat} {L : List ML} (b : CBd n L) (k : Nat) (f : ML → ML) (h : ∀ m ∈ L, Bd (n + 1) (f m)) : CBd (n + 1) (setAt L k f) := by
  unfold Rl.setAt
  split
  · rename_i m q
    exact (b.mono (Nat.le_succ n)).set _ (h m (List.mem_of_getElem? q))
  · exact b.mono (Nat.le_succ n)
theorem CBd.next {n : Nat} {L : List ML} {k : Nat} {d : Bool} {m' : ML} (b : CBd n L) (h : Bd (n + 1) m') : CBd (n + 1) (nextC (L.set k m') k d (fun m => m.reset (!d))) := by
  have b1 := (b.mono (Nat.le_succ n)).set k h
  unfold nextC
  split
  · split
    · rename_i m q
      rw [List.getElem?_set_ne (by omega)] at q
      exact b1.set _ ((b m (List.mem_of_getElem? q)).reset _)
    · exact b1
  · split
    · exact b1
    · split
      · rename_i m q
        rw [List.getElem?_set_ne (by omega)] at q
        exact b1.set _ ((b m (List.mem_of_getElem? q)).reset _)
      · exact b1
theorem CBd.deliver {n : Nat} {L : List ML} (b : CBd n L) (k : Nat) (d : Bool) : CBd (n + 1) (deliverC L k d) := by
  unfold deliverC
  split
  · exact b.mono (Nat.le_succ n)
  · rename_i m q
    have h := (b m (List.mem_of_getElem? q)).arrive d
    split
    · exact b.next h
    · exact (b.mono (Nat.le_succ n)).set _ h
theorem Bd.fresh {n : Nat} (h : 1 ≤ n) : Bd n ML.fresh := ⟨fun _ => Nat.zero_le _, fun _ _ => Nat.zero_le _, fun _ _ _ => h, fun _ _ _ l hl => by
  have hl : l ∈ ([[]] : List (List Pk)) := hl
  rw [List.mem_singleton] at hl
  subst hl
  exact Nat.zero_le _, fun _ _ _ z => by cases (show ([[]] : List (List Pk)) = [] from z)⟩
theorem fresh_at (n : Nat) (L : List ML) (h : CBd n L) (hn : 1 ≤ n) (k : Nat) : Bd n (at_ L k) := by
  by_cases hk : k < L.length
  · exact h.at hk
  · unfold at_
    rw [List.getD_eq_getElem?_getD, List.getElem?_eq_none (by omega)]
    exact Bd.fresh hn
theorem CBd.fwd {n : Nat} {L : List ML} (b : CBd n L) (j : Nat) (d u : Bool) (hn : 1 ≤ n) : CBd (n + 1) (fwdC L j d u) := by
  unfold fwdC
  exact ((b.mono (Nat.le_succ n)).set _ ((fresh_at n L b hn _).took d u)).set _ ((fresh_at n L b hn _).send _ u _)
theorem CBd.do {n : Nat} {L : List ML} (b : CBd n L) (hn : 1 ≤ n) (e : MEv) : CBd (n + 1) (doC L e) := by
  cases e with
  | dl d k => exact b.deliver k d
  | fw u d j => exact b.fwd j d u hn
theorem CBd.nextL {n : Nat} {L : List ML} (b : CBd n L) (hn : 1 ≤ n) (w : Nat) : CBd (n + 1) (nextL L w) := by
  unfold Rl.nextL
  split
  · exact b.do hn _
  · exact b.mono (Nat.le_succ n)
theorem CBd.run {w : Nat} : ∀ {j n : Nat} {L : List ML}, CBd n L → 1 ≤ n → CBd (n + j) (runC w j L).2
  | 0, n, L, b, _ => b
  | j + 1, n, L, b, hn => by
    unfold runC
    split
    · rename_i e _
      have := CBd.run (w := w) (j := j) (b.do hn e) (Nat.le_succ_of_le hn)
      have e2 : n + 1 + j = n + (j + 1) := by omega
      rw [e2] at this
      exact this
    · exact b.mono (by omega)
theorem CBd.resetC {n : Nat} {L : List ML} (b : CBd n L) (k : Nat) : CBd (n + 1) (resetC L k) := by
  unfold Rl.resetC
  cases k with
  | zero => exact b.setAt 0 _ fun m q => (b m q).reset _
  | succ j =>
    show CBd (n + 1) (Rl.setAt (Rl.setAt L j fun m => m.reset true) (j + 1) fun m => m.reset false)
    have b1 := b.setAt j (fun m => m.reset true) fun m q => (b m q).reset _
    unfold Rl.setAt at b1 ⊢
    cases hj : L[j]? with
    | none =>
      rw [hj] at b1
      dsimp only at b1 ⊢
      split
      · rename_i m q
        exact b1.set _ ((b m (List.mem_of_getElem? q)).reset _)
      · exact b1
    | some x =>
      rw [hj] at b1
      dsimp only at b1 ⊢
      rw [List.getElem?_set_ne (by omega)]
      split
      · rename_i m q
        exact b1.set _ ((b m (List.mem_of_getElem? q)).reset _)
      · exact b1
theorem CBd.send {n : Nat} {L : List ML} (b : CBd n L) (hn : 1 ≤ n) (s u : Bool) (p : Pk) : CBd (n + 1) (sendC L s u p) := (b.mono (Nat.le_succ n)).set _ ((fresh_at n L b hn _).send s u p)
theorem CBd.read {n : Nat} {L : List ML} (b : CBd n L) (hn : 1 ≤ n) (s u : Bool) : CBd (n + 1) (readC L s u) := (b.mono (Nat.le_succ n)).set _ ((fresh_at n L b hn _).took s u)

/-! ### a circuit in the heap -/
def nsC : List Str := ["window", "links"]
theorem ndC : nsC.Nodup := by decide +kernel
def circF (w : Nat) (al : Addr) : List (Str × V) := nsC.zip [.int w, .ref al]
theorem circF_window {w : Nat} {al : Addr} : (circF w al).lookup ("window" : Str) = some (.int w) := fld_get ndC (i := 0) rfl rfl
theorem circF_links {w : Nat} {al : Addr} : (circF w al).lookup ("links" : Str) = some (.ref al) := fld_get ndC (i := 1) rfl rfl
theorem circF_no {m : Str} (h : m ∉ nsC) {w : Nat} {al : Addr} : (circF w al).lookup m = none := fld_no h
structure CA where
  dx : Addr
  al : Addr
  ls : List Addr
abbrev Cid := Nat × Nat
def cS (γ : Cid) : Pth × Rol → Prop := fun z => z.1.1 = γ.1 ∧ z.1.2.1 = γ.2
structure CircIs (K : PySem.W.Frag) (A : Adr) (ρ : Gh) (H : Hp) (γ : Cid) (p : Addr) (w : Nat) (L : List ML) (x : CA) : Prop where
  o : H p = some (.ins A.c_C x.dx (circF w x.al))
  no : ρ p = none
  l : H x.al = some (.lst (x.ls.map V.ref))
  nl : ρ x.al = none
  n : x.ls.length = L.length
  k : ∀ i a m, x.ls[i]? = some a → L[i]? = some m → LinkAt K A ρ H (γ.1, γ.2, i) a m
def CircAt (K : PySem.W.Frag) (A : Adr) (ρ : Gh) (H : Hp) (γ : Cid) (p : Addr) (w : Nat) (L : List ML) : Prop := ∃ x, CircIs K A ρ H γ p w L x
section
variable {K : PySem.W.Frag} {A : Adr} {ρ ρ' : Gh} {H H' : Hp} {γ : Cid} {p : Addr} {w : Nat} {L : List ML} {x : CA} {S : Pth × Rol → Prop}
theorem CircIs.stp (c : CircIs K A ρ H γ p w L x) (s : Stp S ρ ρ' H H') (h : ∀ z, cS γ z → ¬ S z) : CircIs K A ρ' H' γ p w L x :=
  ⟨s.keep c.o c.no, s.role c.no c.o, s.keep c.l c.nl, s.role c.nl c.l, c.n, fun i a m h1 h2 => (c.k i a m h1 h2).mv (Mv.stp s fun z hz => h z ⟨by rw [hz], by rw [hz]⟩)⟩
theorem CircAt.stp (c : CircAt K A ρ H γ p w L) (s : Stp S ρ ρ' H H') (h : ∀ z, cS γ z → ¬ S z) : CircAt K A ρ' H' γ p w L := by
  obtain ⟨x, c⟩ := c
  exact ⟨x, c.stp s h⟩
theorem CircIs.same (c : CircIs K A ρ H γ p w L x) (t : Trk ρ H) (e : Same H H') : CircIs K A ρ H' γ p w L x := c.stp (S := fun _ => False) (Stp.same t e) fun _ _ z => z
/-- one link has changed -/
theorem CircIs.set (c : CircIs K A ρ H γ p w L x) {i : Nat} {a : Addr} {m' : ML} (s : Stp (lS (γ.1, γ.2, i)) ρ ρ' H H') (ha : x.ls[i]? = some a) (h : LinkAt K A ρ' H' (γ.1, γ.2, i) a m') : CircIs K A ρ' H' γ p w (L.set i m') x := by
  refine ⟨s.keep c.o c.no, s.role c.no c.o, s.keep c.l c.nl, s.role c.nl c.l, by rw [c.n, List.length_set], fun j b m h1 h2 => ?_⟩
  by_cases hj : j = i
  · subst hj
    rw [ha] at h1
    cases h1
    rw [List.getElem?_set] at h2
    split at h2
    · split at h2
      · cases h2; exact h
      · cases h2
    · rename_i z; exact absurd rfl z
  · rw [List.getElem?_set_ne (fun z => hj z.symm)] at h2
    refine (c.k j b m h1 h2).mv (Mv.stp s fun z hz hz' => hj ?_)
    have e := hz.symm.trans hz'
    exact congrArg (fun t : Pth => t.2.2) e
theorem lS_cS {i : Nat} : ∀ z, lS (γ.1, γ.2, i) z → cS γ z := fun z hz => ⟨by rw [hz], by rw [hz]⟩
theorem CircIs.at (c : CircIs K A ρ H γ p w L x) {i : Nat} (h : i < L.length) : ∃ a, x.ls[i]? = some a ∧ LinkAt K A ρ H (γ.1, γ.2, i) a (at_ L i) ∧ atI (x.ls.map V.ref) (i : Int) = some (.ref a) := by
  have hl : i < x.ls.length := by rw [c.n]; exact h
  refine ⟨x.ls[i], List.getElem?_eq_getElem hl, c.k i _ _ (List.getElem?_eq_getElem hl) (at_get h), ?_⟩
  refine atI_nat ?_
  rw [List.getElem?_map, List.getElem?_eq_getElem hl]; rfl
end
end Rl
end
section
set_option Elab.async false
set_option linter.all false
set_option maxRecDepth 100000
set_option maxHeartbeats 4000000
/-! RlC2: the methods of Circuit that never refuse. -/
namespace Rl
open PySem PySem.Spec PyProof.Rows L2

def quietC (L : List ML) : Bool := L.all fun m => (m.q false).isEmpty && (m.q true).isEmpty
def spCreset (K : PySem.W.Frag) (A : Adr) : Sp := fun vs H Q _ => ∃ (ρ : Gh) (γ : Cid) (p : Addr) (w : Nat) (L : List ML) (n k : Nat), vs = [.ref p, .int k] ∧ Trk ρ H ∧ CircAt K A ρ H γ p w L ∧ CBd n L ∧ n < 14000000 ∧ k ≤ L.length ∧
  ∀ ρ' H', Stp (cS γ) ρ ρ' H H' → CircAt K A ρ' H' γ p w (resetC L k) → Q .non H'
def spCterm (K : PySem.W.Frag) (A : Adr) : Sp := fun vs H Q _ => ∃ (ρ : Gh) (γ : Cid) (p : Addr) (w : Nat) (L : List ML) (x : CA) (s : Bool) (a : Addr), vs = [.ref p, .int (bI s)] ∧ CircIs K A ρ H γ p w L x ∧ x.ls[termOf L s]? = some a ∧ Q (.ref a) H
def spClinks (K : PySem.W.Frag) (A : Adr) : Sp := fun vs H Q _ => ∃ (ρ : Gh) (γ : Cid) (p : Addr) (w : Nat) (L : List ML) (x : CA) (n : Nat) (d : Bool) (a b : Addr), vs = [.ref p, .int n, .int (bI d)] ∧ CircIs K A ρ H γ p w L x ∧ 1 ≤ n ∧ n < L.length ∧
  x.ls[srcOf n d]? = some a ∧ x.ls[tgtOf n d]? = some b ∧ ∀ t, H t = none → Q (.ref t) (upd H t (.tup [.ref a, .ref b]))
def spCcan (K : PySem.W.Frag) (A : Adr) : Sp := fun vs H Q _ => ∃ (ρ : Gh) (γ : Cid) (p : Addr) (w : Nat) (L : List ML) (n : Nat) (d u : Bool), vs = [.ref p, .int n, .int (bI d), .int (bI u)] ∧ Trk ρ H ∧ CircAt K A ρ H γ p w L ∧ 1 ≤ n ∧ n < L.length ∧
  ∀ H', Same H H' → Q (.bl (canF L w u d n)) H'
def spCpass (K : PySem.W.Frag) (A : Adr) : Sp := fun vs H Q _ => ∃ (ρ : Gh) (γ : Cid) (p : Addr) (w : Nat) (L : List ML) (n : Nat) (d u : Bool) (m : Nat), vs = [.ref p, .int n, .int (bI d), .int (bI u)] ∧ Trk ρ H ∧ CircAt K A ρ H γ p w L ∧ 1 ≤ n ∧ n < L.length ∧ CBd m L ∧ m < 14000000 ∧ ((at_ L (srcOf n d)).e d).inn u ≠ [] ∧
  ∀ ρ' H', Stp (cS γ) ρ ρ' H H' → CircAt K A ρ' H' γ p w (fwdC L n d u) → Q .non H'
def spCread (K : PySem.W.Frag) (A : Adr) : Sp := fun vs H Q _ => ∃ (ρ : Gh) (γ : Cid) (p : Addr) (w : Nat) (L : List ML) (s u : Bool) (n : Nat), vs = [.ref p, .int (bI s), .int (bI u)] ∧ Trk ρ H ∧ CircAt K A ρ H γ p w L ∧ 0 < L.length ∧ CBd n L ∧ n < 14000000 ∧
  match boxC L s u with
  | [] => Q .non H
  | pk :: _ => ∀ ρ' H' y, Stp (cS γ) ρ ρ' H H' → CircAt K A ρ' H' γ p w (readC L s u) → PkAt K H' pk y → Q y H'
def spCdeliver (K : PySem.W.Frag) (A : Adr) : Sp := fun vs H Q _ => ∃ (ρ : Gh) (γ : Cid) (p : Addr) (w : Nat) (L : List ML) (k : Nat) (d : Bool) (n : Nat), vs = [.ref p, .int k, .int (bI d)] ∧ Trk ρ H ∧ CircAt K A ρ H γ p w L ∧ k < L.length ∧ CBd n L ∧ n < 14000000 ∧
  match headC L k d with
  | none => Q .non H
  | some i => ∀ ρ' H', Stp (cS γ) ρ ρ' H H' → CircAt K A ρ' H' γ p w (deliverC L k d) → Q (.str (kindS i)) H'
def spCquiet (K : PySem.W.Frag) (A : Adr) : Sp := fun vs H Q _ => ∃ (ρ : Gh) (γ : Cid) (p : Addr) (w : Nat) (L : List ML), vs = [.ref p] ∧ Trk ρ H ∧ CircAt K A ρ H γ p w L ∧ L.length ≤ 1000 ∧ ∀ H', Same H H' → Q (.bl (quietC L)) H'

theorem at_set {L : List ML} {i j : Nat} {m : ML} (h : i ≠ j) : at_ (L.set i m) j = at_ L j := by
  unfold at_
  rw [List.getD_eq_getElem?_getD, List.getD_eq_getElem?_getD, List.getElem?_set_ne h]
section
variable {P : Program} {w : World} {K : PySem.W.Frag} {mg : Str → Option Value} {base : Heap} {A : Adr}
theorem ok_C_reset (T : Txt K mg A) : Ok P w K mg base CX0 3 A.f_C_reset p_C_reset (spCreset K A) := by
  have G := ok_L_reset (P := P) (w := w) (base := base) T
  refine ok_of T.F_C_reset sc_C_reset (fun vs H Q E h => ?_) (fun cdv A' outer s H vs Q E hr h => ?_)
  · obtain ⟨ρ, γ, p, w, L, n, k, rfl, _⟩ := h
    rfl
  · obtain ⟨ρ, γ, p, w', L, n, k, rfl, ht, ⟨x, c⟩, hb, hn, hk, q⟩ := h
    obtain ⟨uL, hL, rL⟩ := T.v_LEFT
    obtain ⟨uR, hR, rR⟩ := T.v_RIGHT
    refine ⟨_, pss_cons (ps_if (pt_cmpR op_gt (pv 1) pe_int (nomark _))
        (pss_one (ps_expr (fn_meth G T.cl_L T.m_L_reset hr (pe_ix ix_list (pe_fld (pv 0) rfl) (pe_op op_sub (pv 1) pe_int) (fun _ _ => rfl)) (pa_cons (pe_glob rfl hR rR) pa_nil)))) pss_nil)
      (pss_one (ps_if (pt_cmpR op_lt (pv 1) (pe_lenOf T.b_len (pe_fld (pv 0) rfl)) (nomark _))
        (pss_one (ps_expr (fn_meth G T.cl_L T.m_L_reset hr (pe_ix ix_list (pe_fld (pv 0) rfl) (pv 1) (fun _ _ => rfl)) (pa_cons (pe_glob rfl hL rL) pa_nil)))) pss_nil)), ?_⟩
    have last : ∀ (ρ1 : Gh) (H1 : Hp) (L1 : List ML), Stp (cS γ) ρ ρ1 H H1 → CircIs K A ρ1 H1 γ p w' L1 x → CBd (n + 1) L1 → L1.length = L.length → setAt L1 k (fun m => m.reset false) = resetC L k →
        (tIfS (tTest (tOp (rI0 fun i j => .bl (decide (i < j))) (tVar 1) (tCB (rLenOf K) (tCons (tFld K (tVar 0) "links") tNil))))
          (tDrop (tMeth A.c_L "reset" (spReset K A) [] E0 (tOp (rIxL K) (tFld K (tVar 0) "links") (tVar 1)) (tCons (tC (.int 0)) tNil))) tNext)
          { nx := fun _ H' => Q .non H', rt := Q } (start n_C_reset [.ref p, .int k]) H1 := by
      intro ρ1 H1 L1 s1 c1 b1 l1 e1
      refine ⟨_, rfl, _, rfl, p, _, x.dx, _, _, rfl, c1.o, T.cl_C, T.a_C_links, circF_links, _, _, rfl, .inl (SqL.of c1.l), _, _, rfl, rfl, _, rfl, ?_⟩
      rw [List.length_map, c1.n]
      by_cases hlt : k < L1.length
      · refine if_yes (decide_eq_true (by omega)) ?_
        obtain ⟨a, ha, ⟨y, hy⟩, hat⟩ := c1.at hlt
        refine ⟨_, rfl, p, _, x.dx, _, _, rfl, c1.o, T.cl_C, T.a_C_links, circF_links, _, rfl, x.al, _, _, _, rfl, rfl, SqL.of c1.l, hat, ?_⟩
        refine ⟨a, y.dx, _, rfl, hy.o.h, linkF_no (by decide +kernel), ρ1, (γ.1, γ.2, k), a, at_ L1 k, false, n + 1, rfl, s1.trk, ⟨y, hy⟩, b1.at hlt, by omega, fun ρ2 H2 s2 h2 => ?_⟩
        refine q ρ2 H2 (s1.trans (s2.mono lS_cS)) ⟨x, ?_⟩
        rw [← e1]
        unfold setAt
        rw [at_get hlt]
        exact c1.set s2 ha h2
      · refine if_no (decide_eq_false (by omega)) ?_
        refine q ρ1 H1 s1 ⟨x, ?_⟩
        rw [← e1]
        unfold setAt
        rw [List.getElem?_eq_none (by omega)]
        exact c1
    refine ⟨_, rfl, _, _, rfl, rfl, _, rfl, ?_⟩
    cases k with
    | zero =>
      refine if_no rfl ?_
      exact last ρ H L (Stp.refl ht) c (hb.mono (Nat.le_succ n)) rfl rfl
    | succ j =>
      refine if_yes (decide_eq_true (by omega)) ?_
      have hj : j < L.length := by omega
      obtain ⟨a, ha, ⟨y, hy⟩, hat⟩ := c.at hj
      have ej : ((j + 1 : Nat) : Int) - 1 = (j : Int) := by omega
      refine ⟨_, rfl, p, _, x.dx, _, _, rfl, c.o, T.cl_C, T.a_C_links, circF_links, _, rfl, _, _, rfl, rfl, x.al, _, _, _, rfl, rfl, SqL.of c.l, by rw [ej]; exact hat, ?_⟩
      refine ⟨a, y.dx, _, rfl, hy.o.h, linkF_no (by decide +kernel), ρ, (γ.1, γ.2, j), a, at_ L j, true, n, rfl, ht, ⟨y, hy⟩, hb.at hj, by omega, fun ρ2 H2 s2 h2 => ?_⟩
      refine last ρ2 H2 (L.set j ((at_ L j).reset true)) (s2.mono lS_cS) (c.set s2 ha h2) ((hb.mono (Nat.le_succ n)).set _ ((hb.at hj).reset _)) (by rw [List.length_set]) ?_
      show _ = setAt (setAt L j fun m => m.reset true) (j + 1) _
      have e : setAt L j (fun m => m.reset true) = L.set j ((at_ L j).reset true) := by
        unfold setAt
        rw [at_get hj]
      rw [e]
theorem ok_C_terminal (T : Txt K mg A) : Ok P w K mg base CX0 1 A.f_C_terminal p_C_terminal (spCterm K A) := by
  refine ok_of T.F_C_terminal sc_C_terminal (fun vs H Q E h => ?_) (fun cdv A' outer s H vs Q E hr h => ?_)
  · obtain ⟨ρ, γ, p, w, L, x, s, a, rfl, _⟩ := h
    rfl
  · obtain ⟨ρ, γ, p, w', L, x, s, a, rfl, c, ha, q⟩ := h
    obtain ⟨uL, hL, rL⟩ := T.v_LEFT
    refine ⟨_, pss_one (ps_ret (pe_ifExp (pt_cmpR op_eq (pv 1) (pe_glob rfl hL rL) (nomark _)) (pe_ix ix_list (pe_fld (pv 0) rfl) pe_int (fun _ _ => rfl))
      (pe_ix ix_list (pe_fld (pv 0) rfl) (pe_op op_sub (pe_lenOf T.b_len (pe_fld (pv 0) rfl)) pe_int) (fun _ _ => rfl)))), ?_⟩
    have hat : ∀ j : Nat, x.ls[j]? = some a → atI (x.ls.map V.ref) (j : Int) = some (.ref a) := fun j h => atI_nat (by rw [List.getElem?_map, h]; rfl)
    refine ⟨_, rfl, rfl, _, rfl, ?_⟩
    cases s with
    | false =>
      refine if_yes rfl ?_
      exact ⟨_, rfl, p, _, x.dx, _, _, rfl, c.o, T.cl_C, T.a_C_links, circF_links, x.al, _, _, _, rfl, rfl, SqL.of c.l, hat 0 ha, q⟩
    | true =>
      refine if_no rfl ?_
      have hl : termOf L true < x.ls.length := (List.getElem?_eq_some_iff.mp ha).1
      have hl2 : L.length - 1 < x.ls.length := hl
      have el : ((x.ls.map V.ref).length : Int) - 1 = ((L.length - 1 : Nat) : Int) := by
        rw [List.length_map]
        have := c.n
        omega
      refine ⟨_, rfl, p, _, x.dx, _, _, rfl, c.o, T.cl_C, T.a_C_links, circF_links, _, rfl, p, _, x.dx, _, _, rfl, c.o, T.cl_C, T.a_C_links, circF_links, _, _, rfl, .inl (SqL.of c.l), _, _, rfl, rfl, ?_⟩
      exact ⟨x.al, _, _, _, rfl, rfl, SqL.of c.l, by rw [el]; exact hat _ ha, q⟩
theorem ok_C_links_at (T : Txt K mg A) : Ok P w K mg base CX0 1 A.f_C_links_at p_C_links_at (spClinks K A) := by
  refine ok_of T.F_C_links_at sc_C_links_at (fun vs H Q E h => ?_) (fun cdv A' outer s H vs Q E hr h => ?_)
  · obtain ⟨ρ, γ, p, w, L, x, n, d, a, b, rfl, _⟩ := h
    rfl
  · obtain ⟨ρ, γ, p, w', L, x, n, d, a, b, rfl, c, h1, h2, ha, hb, q⟩ := h
    obtain ⟨uR, hR, rR⟩ := T.v_RIGHT
    refine ⟨_, pss_cons (ps_set (i := 3) sc_C_links_at.nd rfl (Or.inl rfl) (pe_ix ix_list (pe_fld (pv 0) rfl) (pe_op op_sub (pv 1) pe_int) (fun _ _ => rfl)))
      (pss_cons (ps_set (i := 4) sc_C_links_at.nd rfl (Or.inl rfl) (pe_ix ix_list (pe_fld (pv 0) rfl) (pv 1) (fun _ _ => rfl)))
      (pss_one (ps_ret (pe_ifExp (pt_cmpR op_eq (pv 2) (pe_glob rfl hR rR) (nomark _)) (pe_tup (pa_cons (pv 3) (pa_cons (pv 4) pa_nil))) (pe_tup (pa_cons (pv 4) (pa_cons (pv 3) pa_nil))))))), ?_⟩
    have en : (n : Int) - 1 = ((n - 1 : Nat) : Int) := by omega
    obtain ⟨a0, ha0, _, hat0⟩ := c.at (i := n - 1) (by omega)
    obtain ⟨a1, ha1, _, hat1⟩ := c.at (i := n) h2
    refine ⟨_, rfl, p, _, x.dx, _, _, rfl, c.o, T.cl_C, T.a_C_links, circF_links, _, rfl, _, _, rfl, rfl, x.al, _, _, _, rfl, rfl, SqL.of c.l, by rw [en]; exact hat0, ?_⟩
    refine ⟨_, rfl, p, _, x.dx, _, _, rfl, c.o, T.cl_C, T.a_C_links, circF_links, _, rfl, x.al, _, _, _, rfl, rfl, SqL.of c.l, hat1, ?_⟩
    refine ⟨_, rfl, rfl, _, rfl, ?_⟩
    cases d with
    | true =>
      refine if_yes rfl ?_
      have e0 : a0 = a := Option.some.inj (ha0.symm.trans ha)
      have e1 : a1 = b := Option.some.inj (ha1.symm.trans hb)
      subst e0; subst e1
      exact ⟨_, rfl, _, rfl, two_le, q⟩
    | false =>
      refine if_no rfl ?_
      have e0 : a0 = b := Option.some.inj (ha0.symm.trans hb)
      have e1 : a1 = a := Option.some.inj (ha1.symm.trans ha)
      subst e0; subst e1
      exact ⟨_, rfl, _, rfl, two_le, q⟩
end
end Rl
end
section
set_option Elab.async false
set_option linter.all false
set_option maxRecDepth 100000
set_option maxHeartbeats 4000000
/-! RlC3: can_forward, pass_on, read, deliver of Circuit. -/
namespace Rl
open PySem PySem.Spec PyProof.Rows L2

theorem hasN {α : Type} {F : Pk → V → Prop} {l : List Pk} {vs : List V} (h : Paired F l vs) : (decide (V.int (vs.length : Int) = V.int 0)) = l.isEmpty := by
  cases h with
  | nil => rfl
  | cons _ _ =>
    refine decide_eq_false fun z => ?_
    have z := V.int.inj z
    rw [List.length_cons] at z
    omega
section
variable {P : Program} {w : World} {K : PySem.W.Frag} {mg : Str → Option Value} {base : Heap} {A : Adr}
theorem ok_C_can_forward (T : Txt K mg A) : Ok P w K mg base CX0 2 A.f_C_can_forward p_C_can_forward (spCcan K A) := by
  have Gl := ok_C_links_at (P := P) (w := w) (base := base) T
  have Gs := ok_L_can_send (P := P) (w := w) (base := base) T
  refine ok_of T.F_C_can_forward sc_C_can_forward (fun vs H Q E h => ?_) (fun cdv A' outer s H vs Q E hr h => ?_)
  · obtain ⟨ρ, γ, p, w, L, n, d, u, rfl, _⟩ := h
    rfl
  · obtain ⟨ρ, γ, p, w', L, n, d, u, rfl, ht, ⟨x, c⟩, h1, h2, q⟩ := h
    refine ⟨_, pss_cons (ps_asg (fn_meth Gl T.cl_C T.m_C_links_at hr (pv 0) (pa_cons (pv 1) (pa_cons (pv 2) pa_nil))) (pg_tup rfl (pgs_cons (pg_name (i := 4) sc_C_can_forward.nd rfl (Or.inl rfl)) (pgs_cons (pg_name (i := 5) sc_C_can_forward.nd rfl (Or.inl rfl)) pgs_nil))))
      (pss_cons (ps_if (pt_cmpR op_eq (pe_lenOf T.b_len (pe_ix ix_list (pe_fld (pe_ix ix_list (pe_fld (pv 4) rfl) (pv 2) (fun _ _ => rfl)) rfl) (pv 3) (fun _ _ => rfl))) pe_int (nomark _)) (pss_one (ps_ret pe_bl)) pss_nil)
      (pss_one (ps_ret (fn_meth Gs T.cl_L T.m_L_can_send hr (pv 5) (pa_cons (pe_op op_sub pe_int (pv 2)) (pa_cons (pv 3) (pa_cons (pe_fld (pv 0) rfl) pa_nil))))))), ?_⟩
    obtain ⟨a, ha, ⟨ya, hya⟩, _⟩ := c.at (src_lt d h1 h2)
    obtain ⟨b, hb, ⟨yb, hyb⟩, _⟩ := c.at (tgt_lt d h1 h2)
    refine ⟨_, rfl, p, x.dx, _, rfl, c.o, circF_no (by decide +kernel), _, rfl, _, rfl, ρ, γ, p, w', L, x, n, d, a, b, rfl, c, h1, h2, ha, hb, fun t htt => ?_⟩
    have sm : Same H (upd H t (.tup [.ref a, .ref b])) := Same.new htt
    have ma : Mv K (fun _ => True) ρ ρ H _ := Mv.same ht sm
    have hya := hya.mv (ma.mono fun _ _ => trivial)
    have hyb := hyb.mv (ma.mono fun _ _ => trivial)
    have c := c.same ht sm
    refine ⟨t, _, rfl, .of upd_same, rfl, _, _, rfl, _, _, rfl, rfl, ?_⟩
    have e := hya.e d
    obtain ⟨vs, hv, cin⟩ := e.i.b u
    refine ⟨_, rfl, a, _, ya.dx, _, _, rfl, hya.o.h, T.cl_L, T.a_L_ends, linkF_ends, _, rfl, ya.ae, _, _, _, rfl, rfl, SqL.of hya.en.h, at2 (f := fun z => .ref (ya.aE z)) d, ?_⟩
    refine ⟨ya.aE d, _, (ya.ea d).dx, _, _, rfl, e.o.h, T.cl_E, T.a_E_inboxes, endF_inboxes, _, rfl, (ya.ea d).ai, _, _, _, rfl, rfl, SqL.of e.i.l.h, at2 (f := fun z => .ref ((ya.ea d).aI z)) u, ?_⟩
    refine ⟨_, _, rfl, .inl (SqL.of cin.h), rfl, _, rfl, ?_⟩
    rw [hasN (α := Unit) hv]
    unfold canF at q
    cases hin : (((at_ L (srcOf n d)).e d).inn u).isEmpty with
    | true =>
      rw [hin] at q
      refine if_yes rfl ?_
      exact q _ sm
    | false =>
      rw [hin] at q
      refine if_no rfl ?_
      refine ⟨_, rfl, b, yb.dx, _, rfl, hyb.o.h, linkF_no (by decide +kernel), _, rfl, _, _, rfl, rfl, _, rfl, _, rfl, p, _, x.dx, _, _, rfl, c.o, T.cl_C, T.a_C_window, circF_window, ?_⟩
      refine ⟨ρ, (γ.1, γ.2, tgtOf n d), b, at_ L (tgtOf n d), !d, u, w', by cases d <;> rfl, ⟨yb, hyb⟩, ?_⟩
      exact q _ sm
theorem ok_C_pass_on (T : Txt K mg A) : Ok P w K mg base CX0 3 A.f_C_pass_on p_C_pass_on (spCpass K A) := by
  have Gl := ok_C_links_at (P := P) (w := w) (base := base) T
  have Gs := ok_L_send (P := P) (w := w) (base := base) T
  have Gt := ok_L_take (P := P) (w := w) (base := base) T
  refine ok_of T.F_C_pass_on sc_C_pass_on (fun vs H Q E h => ?_) (fun cdv A' outer s H vs Q E hr h => ?_)
  · obtain ⟨ρ, γ, p, w, L, n, d, u, m, rfl, _⟩ := h
    rfl
  · obtain ⟨ρ, γ, p, w', L, n, d, u, m, rfl, ht, ⟨x, c⟩, h1, h2, hbd, hm, hne, q⟩ := h
    refine ⟨_, pss_cons (ps_asg (fn_meth Gl T.cl_C T.m_C_links_at hr (pv 0) (pa_cons (pv 1) (pa_cons (pv 2) pa_nil))) (pg_tup rfl (pgs_cons (pg_name (i := 4) sc_C_pass_on.nd rfl (Or.inl rfl)) (pgs_cons (pg_name (i := 5) sc_C_pass_on.nd rfl (Or.inl rfl)) pgs_nil))))
      (pss_one (ps_expr (fn_meth Gs T.cl_L T.m_L_send hr (pv 5) (pa_cons (pe_op op_sub pe_int (pv 2)) (pa_cons (pv 3) (pa_cons (fn_meth Gt T.cl_L T.m_L_take hr (pv 4) (pa_cons (pv 2) (pa_cons (pv 3) pa_nil))) pa_nil)))))), ?_⟩
    have hs := src_lt d h1 h2
    have hg := tgt_lt d h1 h2
    have hd := src_ne_tgt (n := n) d h1
    obtain ⟨a, ha, _, _⟩ := c.at hs
    obtain ⟨b, hb, _, _⟩ := c.at hg
    refine ⟨_, rfl, p, x.dx, _, rfl, c.o, circF_no (by decide +kernel), _, rfl, _, rfl, ρ, γ, p, w', L, x, n, d, a, b, rfl, c, h1, h2, ha, hb, fun t htt => ?_⟩
    have s1 : Stp (cS γ) ρ ρ H _ := (Stp.refl ht).new (o := .tup [.ref a, .ref b]) htt
    have c1 := c.same ht (Same.new (o := .tup [.ref a, .ref b]) htt)
    refine ⟨t, _, rfl, .of upd_same, rfl, _, _, rfl, _, _, rfl, rfl, ?_⟩
    obtain ⟨ya, hya⟩ := c1.k _ a _ ha (at_get hs)
    obtain ⟨yb, hyb⟩ := c1.k _ b _ hb (at_get hg)
    obtain ⟨pk, l, hin⟩ : ∃ pk l, ((at_ L (srcOf n d)).e d).inn u = pk :: l := by
      cases e : ((at_ L (srcOf n d)).e d).inn u with
      | nil => exact absurd e hne
      | cons pk l => exact ⟨pk, l, rfl⟩
    refine ⟨_, rfl, b, yb.dx, _, rfl, hyb.o.h, linkF_no (by decide +kernel), _, rfl, _, _, rfl, rfl, _, rfl, ?_⟩
    refine ⟨_, rfl, a, ya.dx, _, rfl, hya.o.h, linkF_no (by decide +kernel), _, rfl, _, rfl, ρ, (γ.1, γ.2, srcOf n d), a, at_ L (srcOf n d), d, u, pk, l, m, rfl, s1.trk, ⟨ya, hya⟩, hin, hbd.at hs, by omega, fun ρ2 H2 v s2 h2' hpk => ?_⟩
    have c2 := c1.set s2 ha h2'
    have hb2 := c2.k _ b (at_ L (tgtOf n d)) hb (by rw [List.getElem?_set_ne hd]; exact at_get hg)
    refine ⟨ρ2, (γ.1, γ.2, tgtOf n d), b, at_ L (tgtOf n d), !d, u, pk, v, m, by cases d <;> rfl, s2.trk, hb2, hpk, hbd.at hg, by omega, fun H3 s3 h3 => ?_⟩
    have c3 := c2.set s3 hb h3
    refine q ρ2 H3 ((s1.trans (s2.mono lS_cS)).trans (s3.mono lS_cS)) ⟨x, ?_⟩
    unfold fwdC
    rw [hin]
    exact c3
theorem ok_C_read (T : Txt K mg A) : Ok P w K mg base CX0 3 A.f_C_read p_C_read (spCread K A) := by
  have Gl := ok_C_terminal (P := P) (w := w) (base := base) T
  have Gt := ok_L_take (P := P) (w := w) (base := base) T
  refine ok_of T.F_C_read sc_C_read (fun vs H Q E h => ?_) (fun cdv A' outer s H vs Q E hr h => ?_)
  · obtain ⟨ρ, γ, p, w, L, s, u, n, rfl, _⟩ := h
    rfl
  · obtain ⟨ρ, γ, p, w', L, s, u, n, rfl, ht, ⟨x, c⟩, h0, hbd, hn, q⟩ := h
    refine ⟨_, pss_cons (ps_set (i := 3) sc_C_read.nd rfl (Or.inl rfl) (fn_meth Gl T.cl_C T.m_C_terminal hr (pv 0) (pa_cons (pv 1) pa_nil)))
      (pss_one (ps_ret (pe_ifExp (pt_cmpR op_gt (pe_lenOf T.b_len (pe_ix ix_list (pe_fld (pe_ix ix_list (pe_fld (pv 3) rfl) (pv 1) (fun _ _ => rfl)) rfl) (pv 2) (fun _ _ => rfl))) pe_int (nomark _))
        (fn_meth Gt T.cl_L T.m_L_take hr (pv 3) (pa_cons (pv 1) (pa_cons (pv 2) pa_nil))) pe_non))), ?_⟩
    have hs := term_lt (c := L) s h0
    obtain ⟨a, ha, ⟨ya, hya⟩, _⟩ := c.at hs
    refine ⟨_, rfl, p, x.dx, _, rfl, c.o, circF_no (by decide +kernel), _, rfl, ρ, γ, p, w', L, x, s, a, rfl, c, ha, ?_⟩
    have e := hya.e s
    obtain ⟨vs, hv, cin⟩ := e.i.b u
    refine ⟨_, rfl, a, _, ya.dx, _, _, rfl, hya.o.h, T.cl_L, T.a_L_ends, linkF_ends, _, rfl, ya.ae, _, _, _, rfl, rfl, SqL.of hya.en.h, at2 (f := fun z => .ref (ya.aE z)) s, ?_⟩
    refine ⟨ya.aE s, _, (ya.ea s).dx, _, _, rfl, e.o.h, T.cl_E, T.a_E_inboxes, endF_inboxes, _, rfl, (ya.ea s).ai, _, _, _, rfl, rfl, SqL.of e.i.l.h, at2 (f := fun z => .ref ((ya.ea s).aI z)) u, ?_⟩
    refine ⟨_, _, rfl, .inl (SqL.of cin.h), _, _, rfl, rfl, _, rfl, ?_⟩
    have eb : boxC L s u = ((at_ L (termOf L s)).e s).inn u := rfl
    rw [eb] at q
    cases hin : ((at_ L (termOf L s)).e s).inn u with
    | nil =>
      rw [hin] at q hv
      cases hv
      refine if_no rfl ?_
      exact q
    | cons pk l =>
      rw [hin] at q
      have hl := hv.length
      rw [hin, List.length_cons] at hl
      refine if_yes (decide_eq_true (by omega)) ?_
      refine ⟨_, rfl, a, ya.dx, _, rfl, hya.o.h, linkF_no (by decide +kernel), _, rfl, _, rfl, ρ, (γ.1, γ.2, termOf L s), a, at_ L (termOf L s), s, u, pk, l, n, rfl, ht, ⟨ya, hya⟩, hin, hbd.at hs, by omega, fun ρ2 H2 v s2 h2' hpk => ?_⟩
      exact q ρ2 H2 v (s2.mono lS_cS) ⟨x, c.set s2 ha h2'⟩ hpk
theorem ok_C_deliver (T : Txt K mg A) : Ok P w K mg base CX0 3 A.f_C_deliver p_C_deliver (spCdeliver K A) := by
  have Ga := ok_L_arrive (P := P) (w := w) (base := base) T
  have Gr := ok_L_reset (P := P) (w := w) (base := base) T
  refine ok_of T.F_C_deliver sc_C_deliver (fun vs H Q E h => ?_) (fun cdv A' outer s H vs Q E hr h => ?_)
  · obtain ⟨ρ, γ, p, w, L, k, d, n, rfl, _⟩ := h
    rfl
  · obtain ⟨ρ, γ, p, w', L, k, d, n, rfl, ht, ⟨x, c⟩, hk, hbd, hn, q⟩ := h
    obtain ⟨uR, hR, rR⟩ := T.v_RIGHT
    refine ⟨_, pss_cons (ps_set (i := 3) sc_C_deliver.nd rfl (Or.inl rfl) (pe_ix ix_list (pe_fld (pv 0) rfl) (pv 1) (fun _ _ => rfl)))
      (pss_cons (ps_if (pt_cmpR op_eq (pe_lenOf T.b_len (pe_ix ix_list (pe_fld (pv 3) rfl) (pv 2) (fun _ _ => rfl))) pe_int (nomark _)) (pss_one (ps_ret pe_non)) pss_nil)
      (pss_cons (ps_asg (fn_meth Ga T.cl_L T.m_L_arrive hr (pv 3) (pa_cons (pv 2) pa_nil)) (pg_tup rfl (pgs_cons (pg_name (i := 4) sc_C_deliver.nd rfl (Or.inl rfl)) (pgs_cons (pg_name (i := 5) sc_C_deliver.nd rfl (Or.inl rfl)) pgs_nil))))
      (pss_cons (ps_if (pt_val (pv 5))
        (pss_cons (ps_set (i := 6) sc_C_deliver.nd rfl (Or.inl rfl) (pe_ifExp (pt_cmpR op_eq (pv 2) (pe_glob rfl hR rR) (nomark _)) (pe_op op_add (pv 1) pe_int) (pe_op op_sub (pv 1) pe_int)))
        (pss_one (ps_if (pt_chain op_le op_lt pe_int (pv 6) (pe_lenOf T.b_len (pe_fld (pv 0) rfl)))
          (pss_one (ps_expr (fn_meth Gr T.cl_L T.m_L_reset hr (pe_ix ix_list (pe_fld (pv 0) rfl) (pv 6) (fun _ _ => rfl)) (pa_cons (pe_op op_sub pe_int (pv 2)) pa_nil)))) pss_nil))) pss_nil)
      (pss_one (ps_ret (pv 4)))))), ?_⟩
    obtain ⟨a, ha, ⟨ya, hya⟩, hat⟩ := c.at hk
    refine ⟨_, rfl, p, _, x.dx, _, _, rfl, c.o, T.cl_C, T.a_C_links, circF_links, _, rfl, x.al, _, _, _, rfl, rfl, SqL.of c.l, hat, ?_⟩
    obtain ⟨vs, hv, cq⟩ := hya.q d
    refine ⟨_, rfl, a, _, ya.dx, _, _, rfl, hya.o.h, T.cl_L, T.a_L_queues, linkF_queues, _, rfl, ya.aq, _, _, _, rfl, rfl, SqL.of hya.qu.h, at2 (f := fun z => .ref (ya.aQ z)) d, ?_⟩
    refine ⟨_, _, rfl, .inl (SqL.of cq.h), rfl, _, rfl, ?_⟩
    have eh : headC L k d = ((at_ L k).q d).head? := by
      unfold headC
      rw [at_get hk]; rfl
    rw [eh] at q
    have hl := hv.length
    cases hq : (at_ L k).q d with
    | nil =>
      rw [hq] at q hl
      refine if_yes (by rw [← hl]; rfl) ?_
      exact q
    | cons i r =>
      rw [hq, List.length_cons] at hl
      rw [hq] at q
      refine if_no (decide_eq_false fun z => by have z := V.int.inj z; omega) ?_
      have q : ∀ ρ' H', Stp (cS γ) ρ ρ' H H' → CircAt K A ρ' H' γ p w' (deliverC L k d) → Q (.str (kindS i)) H' := q
      refine ⟨_, rfl, a, ya.dx, _, rfl, hya.o.h, linkF_no (by decide +kernel), _, rfl, ρ, (γ.1, γ.2, k), a, at_ L k, d, i, r, n, rfl, ht, ⟨ya, hya⟩, hq, hbd.at hk, by omega, fun ρ2 H2 t s2 h2 h2t => ?_⟩
      have c2 := c.set s2 ha h2
      have b2 := (hbd.mono (Nat.le_succ n)).set k ((hbd.at hk).arrive d)
      refine ⟨t, _, rfl, .of h2t, rfl, _, _, rfl, _, _, rfl, rfl, ?_⟩
      refine ⟨_, rfl, _, rfl, ?_⟩
      unfold deliverC at q
      rw [at_get hk] at q
      dsimp only at q
      cases hn2 : ((at_ L k).arrive d).2 with
      | false =>
        rw [hn2] at q
        refine if_no rfl ?_
        exact ⟨_, rfl, q ρ2 H2 (s2.mono lS_cS) ⟨x, c2⟩⟩
      | true =>
        rw [hn2] at q
        have q : ∀ ρ' H', Stp (cS γ) ρ ρ' H H' → CircAt K A ρ' H' γ p w' (nextC (L.set k ((at_ L k).arrive d).1) k d (fun m => m.reset (!d))) → Q (.str (kindS i)) H' := q
        refine if_yes rfl ?_
        have c2l : ((x.ls.map V.ref).length : Int) = (L.length : Nat) := by rw [List.length_map, c.n]
        refine ⟨_, rfl, rfl, _, rfl, ?_⟩
        cases d with
        | true =>
          refine if_yes rfl ?_
          refine ⟨_, rfl, _, _, rfl, rfl, ?_⟩
          refine ⟨_, rfl, _, _, rfl, rfl, _, rfl, if_yes (decide_eq_true (by omega)) ?_⟩
          refine ⟨_, rfl, p, _, x.dx, _, _, rfl, c2.o, T.cl_C, T.a_C_links, circF_links, _, _, rfl, .inl (SqL.of c2.l), _, _, rfl, rfl, _, rfl, ?_⟩
          rw [c2l]
          by_cases hlt : k + 1 < L.length
          · refine if_yes (decide_eq_true (by omega)) ?_
            obtain ⟨b, hb, _, hbt⟩ := c.at hlt
            have hgb : (L.set k ((at_ L k).arrive true).1)[k + 1]? = some (at_ L (k + 1)) := by rw [List.getElem?_set_ne (by omega)]; exact at_get hlt
            obtain ⟨yb, hyb⟩ := c2.k _ b _ hb hgb
            refine ⟨_, rfl, p, _, x.dx, _, _, rfl, c2.o, T.cl_C, T.a_C_links, circF_links, _, rfl, x.al, _, _, _, rfl, rfl, SqL.of c2.l, hbt, ?_⟩
            refine ⟨b, yb.dx, _, rfl, hyb.o.h, linkF_no (by decide +kernel), _, rfl, _, _, rfl, rfl, ρ2, (γ.1, γ.2, k + 1), b, at_ L (k + 1), false, n, rfl, s2.trk, ⟨yb, hyb⟩, hbd.at hlt, by omega, fun ρ3 H3 s3 h3 => ?_⟩
            refine ⟨_, rfl, q ρ3 H3 ((s2.mono lS_cS).trans (s3.mono lS_cS)) ⟨x, ?_⟩⟩
            unfold nextC
            rw [if_pos rfl, hgb]
            exact c2.set s3 hb h3
          · refine if_no (decide_eq_false (by omega)) ?_
            refine ⟨_, rfl, q ρ2 H2 (s2.mono lS_cS) ⟨x, ?_⟩⟩
            unfold nextC
            rw [if_pos rfl, List.getElem?_eq_none (by rw [List.length_set]; omega)]
            exact c2
        | false =>
          refine if_no rfl ?_
          refine ⟨_, rfl, _, _, rfl, rfl, ?_⟩
          cases k with
          | zero =>
            refine ⟨_, rfl, _, _, rfl, rfl, _, rfl, if_no rfl ?_⟩
            refine ⟨_, rfl, if_no rfl ?_⟩
            exact ⟨_, rfl, q ρ2 H2 (s2.mono lS_cS) ⟨x, c2⟩⟩
          | succ j =>
            refine ⟨_, rfl, _, _, rfl, rfl, _, rfl, if_yes (decide_eq_true (by omega)) ?_⟩
            refine ⟨_, rfl, p, _, x.dx, _, _, rfl, c2.o, T.cl_C, T.a_C_links, circF_links, _, _, rfl, .inl (SqL.of c2.l), _, _, rfl, rfl, _, rfl, ?_⟩
            rw [c2l]
            refine if_yes (decide_eq_true (by omega)) ?_
            have hlt : j < L.length := by omega
            obtain ⟨b, hb, _, hbt⟩ := c.at hlt
            have hgb : (L.set (j + 1) ((at_ L (j + 1)).arrive false).1)[j]? = some (at_ L j) := by rw [List.getElem?_set_ne (by omega)]; exact at_get hlt
            obtain ⟨yb, hyb⟩ := c2.k _ b _ hb hgb
            have ej : ((j + 1 : Nat) : Int) - 1 = (j : Int) := by omega
            refine ⟨_, rfl, p, _, x.dx, _, _, rfl, c2.o, T.cl_C, T.a_C_links, circF_links, _, rfl, x.al, _, _, _, rfl, rfl, SqL.of c2.l, by rw [ej]; exact hbt, ?_⟩
            refine ⟨b, yb.dx, _, rfl, hyb.o.h, linkF_no (by decide +kernel), _, rfl, _, _, rfl, rfl, ρ2, (γ.1, γ.2, j), b, at_ L j, true, n, rfl, s2.trk, ⟨yb, hyb⟩, hbd.at hlt, by omega, fun ρ3 H3 s3 h3 => ?_⟩
            refine ⟨_, rfl, q ρ3 H3 ((s2.mono lS_cS).trans (s3.mono lS_cS)) ⟨x, ?_⟩⟩
            unfold nextC
            rw [if_neg Bool.false_ne_true]
            show CircIs K A ρ3 H3 γ p w' (match (L.set (j + 1) ((at_ L (j + 1)).arrive false).1)[j]? with | some m => (L.set (j + 1) ((at_ L (j + 1)).arrive false).1).set j (m.reset (!false)) | none => _) x
            rw [hgb]
            exact c2.set s3 hb h3
end
end Rl
end
section
set_option Elab.async false
set_option linter.all false
set_option maxRecDepth 100000
set_option maxHeartbeats 4000000
/-! RlC4: is_quiet and the making of circuits; a comprehension that makes new things. -/
namespace Rl
open PySem PySem.Spec PyProof.Rows L2

section
variable {J : It} {n : Nat} {G : Hp → Prop} {Y : Nat → Hp → V → Hp → Prop} {K : PySem.W.Frag}
/-- a comprehension whose elements make new things with new roles -/
theorem lc_gh (w : Walk J n G Y) {g : TG} {te : TE} {vs : List Nat} {σ : L2.St} {H1 : Hp} {D : Addr} {Qd : Hp → Prop} {ρ : Gh} (ht : Trk ρ H1) (I : List V → Gh → Hp → Prop) (hI : ∀ ys ρ ρ' H H', Mv K (fun _ => True) ρ ρ' H H' → (∀ a o, ρ a = none → H a = some o → a ≠ D → H' a = some o ∧ ρ' a = none) → I ys ρ H → I ys ρ' H') (i0 : ∀ ρ H, I [] ρ H)
    (hD : H1 D = none) (hn : n ≤ sizeLine) (hG : ∀ ρ' H, Stp (fun _ => False) ρ ρ' H1 H → G H)
    (hs : ∀ i x H H' ys ρ' (Q : VK), i < n → Stp (fun _ => False) ρ ρ' H1 H → H D = some (.lst ys) → ρ' D = none → ys.length = i → I ys ρ' H → Y i H x H' → (∀ y ρ2 H4, Stp (fun _ => False) ρ' ρ2 H H4 → I (ys ++ [y]) ρ2 H4 → Q y H4) → g x (wipe σ vs) H' fun σ2 H2 => wipe σ2 vs = wipe σ vs ∧ te σ2 H2 Q)
    (hd : ∀ H ys ρ', Stp (fun _ => False) ρ ρ' H1 H → ρ' D = none → H D = some (.lst ys) → ys.length = n → I ys ρ' H → Qd H) :
    ∃ W : Nat → Nat → Hp → Prop, (∃ m, W 0 m (upd H1 D (.lst []))) ∧ ∀ i m H, W i m H →
      (J.stop i H ∧ Qd H) ∨ (J.go i H ∧ ∃ Nx : Hp → Prop, (∀ H', Nx H' → ∃ m', m' < m ∧ W (i + 1) m' H') ∧ ∀ x H', J.yld i H x H' → g x (wipe σ vs) H' fun σ2 H2 => wipe σ2 vs = wipe σ vs ∧ tYes σ2 H2 fun b H3 =>
        if b = true then te σ2 H3 fun y H4 => ∃ acc, H4 D = some (.lst acc) ∧ acc.length < sizeLine ∧ Nx (upd H4 D (.lst (acc ++ [y]))) else Nx H3) := by
  refine lc_it w (fun i H => ∃ ρ' ys, Stp (fun _ => False) ρ ρ' H1 H ∧ ρ' D = none ∧ H D = some (.lst ys) ∧ ys.length = i ∧ I ys ρ' H) ⟨ρ, [], (Stp.refl ht).new hD, ht.free hD, upd_same, rfl, i0 _ _⟩ (fun i H _ ⟨ρ', _, s, _⟩ => hG ρ' H s) ?_ (fun H ⟨ρ', ys, s, nD, h, l, i⟩ => hd H ys ρ' s nD h l i)
  rintro i x H H' hi ⟨ρ', ys, s, nD, hy, hl, hI0⟩ y
  refine hs i x H H' ys ρ' _ hi s hy nD hl hI0 y fun z ρ2 H4 s4 r4 => ⟨ys, s4.keep hy nD, by omega, ?_⟩
  have n4 := s4.role nD hy
  have h4 := s4.keep hy nD
  refine ⟨ρ2, ys ++ [z], (s.trans s4).mut hD n4, n4, upd_same, by simp [hl], hI _ _ _ _ _ (Mv.out n4 h4 trivial) (fun a o na ha hr => ⟨by rw [upd_ne hr]; exact ha, na⟩) r4⟩
end

def spCinit (K : PySem.W.Frag) (A : Adr) : Sp := fun vs H Q _ => ∃ (H0 : Hp) (ρ : Gh) (γ : Cid) (a dx : Addr) (n w : Nat), vs = [.ref a, .int n, .int w] ∧ 1 ≤ n ∧ n ≤ 1000 ∧ Same H0 H ∧ H0 a = none ∧ H a = some (.ins A.c_C dx []) ∧ Trk ρ H0 ∧
  ∀ ρ' H' x, Stp (fun _ => False) ρ ρ' H0 H' → CircIs K A ρ' H' γ a w (List.replicate (n - 1) ML.fresh) x → H0 x.al = none → Q .non H'
theorem circF_new {w : Nat} {al : Addr} : putF "links" (.ref al) (putF "window" (.int w) []) = circF w al := by
  have e1 : putF ("window" : Str) (.int w) [] = (["window"] : List Str).zip [V.int w] := rfl
  rw [e1, fld_new (by decide +kernel) rfl]; rfl
section
variable {P : Program} {w : World} {K : PySem.W.Frag} {mg : Str → Option Value} {base : Heap} {A : Adr}
theorem ok_C_is_quiet (T : Txt K mg A) : Ok P w K mg base CX0 1 A.f_C_is_quiet p_C_is_quiet (spCquiet K A) := by
  refine ok_of T.F_C_is_quiet sc_C_is_quiet (fun vs H Q E h => ?_) (fun cdv A' outer s H vs Q E hr h => ?_)
  · obtain ⟨ρ, γ, p, w, L, rfl, _⟩ := h
    rfl
  · obtain ⟨ρ, γ, p, w', L, rfl, ht, ⟨x, c⟩, hl, q⟩ := h
    refine ⟨_, pss_one (ps_ret (pe_callB (cr_all rfl) (by rfl) T.b_all (by decide +kernel) (pa_cons
      (pe_lc (own := [("link", 1)]) (g := gName 1) (te := tOp rEq (tOp (rI0 fun i j => .int (i + j)) (tCB (rLenOf K) (tCons (tOp (rIxL K) (tFld K (tVar 1) "queues") (tC (.int 0))) tNil)) (tCB (rLenOf K) (tCons (tOp (rIxL K) (tFld K (tVar 1) "queues") (tC (.int 1))) tNil))) (tC (.int 0))) (by rfl) sc_C_is_quiet.nd (pi_list (pe_fld (pv 0) rfl)) (blkOk_by (own := [("link", 1)]) (N := n_C_is_quiet) (sc := defScope s_C_is_quiet) (by decide +kernel)) (fun _ _ _ _ _ => pg_name (i := 1) sc_C_is_quiet.nd rfl (Or.inl rfl)) (fun _ _ _ _ _ => pts_nil)
        (fun _ _ _ _ _ => pe_cmpR op_eq (pe_op op_add (pe_lenOf T.b_len (pe_ix ix_list (pe_fld (pv 1) rfl) pe_int (fun _ _ => rfl))) (pe_lenOf T.b_len (pe_ix ix_list (pe_fld (pv 1) rfl) pe_int (fun _ _ => rfl)))) pe_int (nomark _))) pa_nil))), ?_⟩
    refine ⟨_, rfl, p, _, x.dx, _, _, rfl, c.o, T.cl_C, T.a_C_links, circF_links, x.al, rfl, ⟨_, SqL.of c.l⟩, fun D hD => ?_⟩
    refine lc_tst (K := K) (walk_list (xs := x.ls.map V.ref)) (fun i v _ => ∃ m, L[i]? = some m ∧ v = .bl ((m.q false).isEmpty && (m.q true).isEmpty)) (fun _ _ _ _ _ h => h) hD (by rw [List.length_map, c.n]; exact sz_le (by omega)) (fun H1 s1 => s1.seq (.of c.l)) ?_ ?_
    · rintro i v H2 H3 Q2 hi s2 ⟨rfl, hx⟩ k
      rw [List.length_map, c.n] at hi
      have c2 := c.same ht s2
      obtain ⟨a, ha, ⟨y, hy⟩, _⟩ := c2.at hi
      rw [List.getElem?_map, ha] at hx
      cases hx
      obtain ⟨v0, hv0, cq0⟩ := hy.q false
      obtain ⟨v1, hv1, cq1⟩ := hy.q true
      refine ⟨rfl, ?_⟩
      refine ⟨_, rfl, a, _, y.dx, _, _, rfl, hy.o.h, T.cl_L, T.a_L_queues, linkF_queues, y.aq, _, 0, .ref (y.aQ false), rfl, rfl, SqL.of hy.qu.h, at2 (f := fun z => .ref (y.aQ z)) false, _, _, rfl, .inl (SqL.of cq0.h), ?_⟩
      refine ⟨_, rfl, a, _, y.dx, _, _, rfl, hy.o.h, T.cl_L, T.a_L_queues, linkF_queues, y.aq, _, 1, .ref (y.aQ true), rfl, rfl, SqL.of hy.qu.h, at2 (f := fun z => .ref (y.aQ z)) true, _, _, rfl, .inl (SqL.of cq1.h), ?_⟩
      refine ⟨_, _, rfl, rfl, rfl, k _ _ (Same.refl _) ⟨at_ L i, at_get hi, ?_⟩⟩
      have l0 := hv0.length
      have l1 := hv1.length
      congr 1
      rw [Bool.eq_iff_iff, decide_eq_true_iff, Bool.and_eq_true, List.isEmpty_iff_length_eq_zero, List.isEmpty_iff_length_eq_zero]
      constructor
      · intro z
        have z := V.int.inj z
        omega
      · intro z
        have e : (v0.length : Int) + (v1.length : Int) = 0 := by omega
        exact congrArg V.int e
    · intro H2 ys s2 hy hl2 hR
      rw [List.length_map, c.n] at hl2
      refine ⟨D, L.map fun m => (m.q false).isEmpty && (m.q true).isEmpty, rfl, ?_, ?_⟩
      · have e : ys = (L.map fun m => (m.q false).isEmpty && (m.q true).isEmpty).map V.bl := by
          apply List.ext_getElem?
          intro i
          rw [List.getElem?_map, List.getElem?_map]
          by_cases hi : i < ys.length
          · obtain ⟨m, h1, h2⟩ := hR i _ (List.getElem?_eq_getElem hi)
            rw [List.getElem?_eq_getElem hi, h1, h2]; rfl
          · rw [List.getElem?_eq_none (by omega), List.getElem?_eq_none (by omega)]; rfl
        rw [← e]
        exact .of hy
      · have e : (L.map fun m => (m.q false).isEmpty && (m.q true).isEmpty).all id = quietC L := by
          rw [List.all_map]; rfl
        rw [e]
        exact q _ s2
theorem ok_C_init (T : Txt K mg A) : Ok P w K mg base CX0 5 A.f_C_init p_C_init (spCinit K A) := by
  have G := ok_L_init (P := P) (w := w) (base := base) T
  refine ok_of T.F_C_init sc_C_init (fun vs H Q E h => ?_) (fun cdv A' outer s H vs Q E hr h => ?_)
  · obtain ⟨H0, ρ, γ, a, dx, n, w, rfl, _⟩ := h
    rfl
  · obtain ⟨H0, ρ, γ, a, dx, n, w', rfl, h1, h2, hs, h0, ha, ht, q⟩ := h
    refine ⟨_, pss_cons (ps_fld (pv 0) (pv 2) rfl)
      (pss_one (ps_fld (pv 0) (pe_lc (own := [("link", 3)]) (g := gName 3) (by rfl) sc_C_init.nd (pi_range1 (by rfl) T.b_range (pa_cons (pe_op op_sub (pv 1) pe_int) pa_nil)) (blkOk_by (own := [("link", 3)]) (N := n_C_init) (sc := defScope s_C_init) (by decide +kernel)) (fun _ _ _ _ _ => pg_name (i := 3) sc_C_init.nd rfl (Or.inl rfl)) (fun _ _ _ _ _ => pts_nil)
        (fun _ _ _ _ _ => fn_make0 T.mk_L G T.gc_L hr)) rfl)), ?_⟩
    have n0 : ρ a = none := ht.free h0
    have s0 : Stp (fun _ => False) ρ ρ H0 H := Stp.same ht hs
    refine ⟨_, rfl, _, rfl, a, _, dx, _, rfl, ha, T.cl_C, T.a_C_window, (by decide), ?_⟩
    dsimp only
    have n1 : ρ a = none := n0
    have s1 := s0.mut (o := .ins A.c_C dx (putF "window" (.int w') [])) h0 n1
    refine fld_in ?_
    have en : ((n : Int) - 1).toNat = n - 1 := by omega
    refine ⟨_, rfl, _, _, rfl, rfl, _, rfl, by omega, by omega, ?_⟩
    rw [en]
    intro D hD
    have hD0 : H0 D = none := s1.there hD
    refine lc_gh (K := K) (walk_range (lo := 0) (n := n - 1)) s1.trk (fun ys ρ' H' => ∀ i y, ys[i]? = some y → ∃ b, y = .ref b ∧ LinkAt K A ρ' H' (γ.1, γ.2, i) b ML.fresh) ?_ (fun _ _ i y h => by simp at h) hD (sz_le (by omega)) (fun _ _ _ => trivial) ?_ ?_
    · intro ys ρ1 ρ2 H1 H2 m _ h i y hy
      obtain ⟨b, e, z⟩ := h i y hy
      exact ⟨b, e, z.mv (m.mono fun _ _ => trivial)⟩
    · rintro i v H1 H2 ys ρ1 Q1 hi st _ _ hl hI ⟨rfl, _⟩ k
      refine ⟨rfl, ?_⟩
      intro e0 d0 ne0 nd0 nn0
      refine ⟨H2, ρ1, (γ.1, γ.2, i), e0, d0, rfl, (Same.new nd0).trans (Same.new (by rw [upd_ne (fun z => nn0 z.symm)]; exact ne0)), ne0, upd_same, st.trk, fun ρ2 H3 s3 h3 => ⟨rfl, ?_⟩⟩
      refine k _ ρ2 H3 s3 fun j y hy => ?_
      by_cases hj : j < ys.length
      · rw [List.getElem?_append_left hj] at hy
        obtain ⟨b, e, z⟩ := hI j y hy
        exact ⟨b, e, z.mv (Mv.stp s3 fun _ _ z => z)⟩
      · rw [List.getElem?_append_right (by omega)] at hy
        have e : j = ys.length := by
          have := (List.getElem?_eq_some_iff.mp hy).1
          simp at this; omega
        subst e
        simp at hy
        subst hy
        rw [hl]
        exact ⟨e0, rfl, h3⟩
    · intro H1 ys ρ1 st nD hy hl hI
      have ha1 : H1 a = some (.ins A.c_C dx (putF "window" (.int w') [])) := st.keep upd_same n0
      have na1 : ρ1 a = none := st.role n0 upd_same
      refine ⟨_, rfl, a, _, dx, _, rfl, ha1, T.cl_C, T.a_C_links, few_le (few_put few0), ?_⟩
      rw [circF_new]
      have s2 := (s1.trans st).mut (o := .ins A.c_C dx (circF w' D)) h0 na1
      have naD : D ≠ a := fun z => by rw [z, ha1] at hy; cases hy
      have m2 : Mv K (fun _ => True) ρ1 ρ1 H1 (upd H1 a (.ins A.c_C dx (circF w' D))) := Mv.out na1 ha1 trivial
      have hv : ∃ ls : List Addr, ys = ls.map V.ref ∧ ∀ i b, ls[i]? = some b → LinkAt K A ρ1 H1 (γ.1, γ.2, i) b ML.fresh := by
        refine ⟨ys.map fun y => match y with | .ref b => b | _ => 0, ?_, ?_⟩
        · rw [List.map_map]
          apply List.ext_getElem?
          intro i
          rw [List.getElem?_map]
          cases e : ys[i]? with
          | none => rfl
          | some y =>
            obtain ⟨b, rfl, _⟩ := hI i y e
            rfl
        · intro i b hb
          rw [List.getElem?_map] at hb
          cases e : ys[i]? with
          | none => rw [e] at hb; cases hb
          | some y =>
            obtain ⟨b', rfl, z⟩ := hI i y e
            rw [e] at hb
            cases hb
            exact z
      obtain ⟨ls, rfl, hls⟩ := hv
      rw [List.length_map] at hl
      refine q _ _ ⟨dx, D, ls⟩ s2 ⟨upd_same, na1, by rw [upd_ne naD]; exact hy, nD, by rw [hl, List.length_replicate], fun i b m h1 h2 => ?_⟩ hD0
      have em : m = ML.fresh := by
        rw [List.getElem?_replicate] at h2
        split at h2
        · cases h2; rfl
        · cases h2
      subst em
      exact (hls i b h1).mv (m2.mono fun _ _ => trivial)
end
end Rl
end
section
set_option Elab.async false
set_option linter.all false
set_option maxRecDepth 100000
set_option maxHeartbeats 4000000
/-! RlC5: step of Circuit. -/
namespace Rl
open PySem PySem.Spec PyProof.Rows L2

def fwdS (u : Bool) : Str := if u then "forward urgent" else "forward"
def whatS (L : List ML) : MEv → Str
  | .dl d k => (match headC L k d with
    | some i => kindS i
    | none => "")
  | .fw u _ _ => fwdS u
def StepV (H : Hp) (L : List ML) : Option MEv → V → Prop
  | none, v => v = .non
  | some e, v => ∃ t, v = .ref t ∧ H t = some (.tup [.str (whatS L e), .int (evAt e : Nat), .int (bI (evDir e))])
def spCstep (K : PySem.W.Frag) (A : Adr) : Sp := fun vs H Q _ => ∃ (ρ : Gh) (γ : Cid) (p : Addr) (w : Nat) (L : List ML) (n : Nat), vs = [.ref p] ∧ Trk ρ H ∧ CircAt K A ρ H γ p w L ∧ CBd n L ∧ n < 14000000 ∧ L.length ≤ 1000 ∧
  ∀ ρ' H' v, Stp (cS γ) ρ ρ' H H' → CircAt K A ρ' H' γ p w (nextL L w) → StepV H' L (evC L w) v → Q v H'

theorem evC_dl {L : List ML} {w : Nat} {i k : Nat} (hi : i < 2) (hb : ∀ j, j < i → firstQ L (j == 0) = none) (h : firstQ L (i == 0) = some k) : evC L w = some (.dl (i == 0) k) := by
  unfold evC
  match i, hi with
  | 0, _ => rw [show firstQ L true = some k from h]; rfl
  | 1, _ =>
    rw [show firstQ L true = none from hb 0 (by decide)]
    dsimp only
    rw [show firstQ L false = some k from h]; rfl
theorem evF_fw {L : List ML} {w : Nat} {u : Bool} {i k : Nat} (hi : i < 2) (hb : ∀ j, j < i → firstF L w u (j == 0) = none) (h : firstF L w u (i == 0) = some k) : evF L w u = some (.fw u (i == 0) k) := by
  unfold evF
  match i, hi with
  | 0, _ => rw [show firstF L w u true = some k from h]; rfl
  | 1, _ =>
    rw [show firstF L w u true = none from hb 0 (by decide)]
    dsimp only
    rw [show firstF L w u false = some k from h]; rfl
theorem evF_none {L : List ML} {w : Nat} {u : Bool} (hb : ∀ j, j < 2 → firstF L w u (j == 0) = none) : evF L w u = none := by
  unfold evF
  rw [show firstF L w u true = none from hb 0 (by decide)]
  dsimp only
  rw [show firstF L w u false = none from hb 1 (by decide)]; rfl
theorem evC_fw {L : List ML} {w : Nat} {i : Nat} {e : MEv} (hi : i < 2) (hq : ∀ j, j < 2 → firstQ L (j == 0) = none) (hb : ∀ j, j < i → evF L w (j == 0) = none) (h : evF L w (i == 0) = some e) : evC L w = some e := by
  unfold evC
  rw [show firstQ L true = none from hq 0 (by decide)]
  dsimp only
  rw [show firstQ L false = none from hq 1 (by decide)]
  dsimp only
  match i, hi with
  | 0, _ => rw [show evF L w true = some e from h]
  | 1, _ =>
    rw [show evF L w true = none from hb 0 (by decide)]
    exact h
theorem evC_none {L : List ML} {w : Nat} (hq : ∀ j, j < 2 → firstQ L (j == 0) = none) (hb : ∀ j, j < 2 → evF L w (j == 0) = none) : evC L w = none := by
  unfold evC
  rw [show firstQ L true = none from hq 0 (by decide)]
  dsimp only
  rw [show firstQ L false = none from hq 1 (by decide)]
  dsimp only
  rw [show evF L w true = none from hb 0 (by decide)]
  exact hb 1 (by decide)
theorem nextL_some {L : List ML} {w : Nat} {e : MEv} (h : evC L w = some e) : nextL L w = doC L e := by
  unfold nextL
  rw [h]
theorem nextL_none {L : List ML} {w : Nat} (h : evC L w = none) : nextL L w = L := by
  unfold nextL
  rw [h]
theorem two_get {a b : V} {i : Nat} {v : V} (h : [a, b][i]? = some v) : i < 2 := by
  have := (List.getElem?_eq_some_iff.mp h).1
  simpa using this
theorem two_bI {i : Nat} {v : V} (h : [V.int 1, V.int 0][i]? = some v) : v = .int (bI (i == 0)) := by
  match i, h with
  | 0, h => cases h; rfl
  | 1, h => cases h; rfl

section
variable {P : Program} {w : World} {K : PySem.W.Frag} {mg : Str → Option Value} {base : Heap} {A : Adr}
theorem ok_C_step (T : Txt K mg A) : Ok P w K mg base CX0 4 A.f_C_step p_C_step (spCstep K A) := by
  have Gd := ok_C_deliver (P := P) (w := w) (base := base) T
  have Gc := ok_C_can_forward (P := P) (w := w) (base := base) T
  have Gp := ok_C_pass_on (P := P) (w := w) (base := base) T
  refine ok_of T.F_C_step sc_C_step (fun vs H Q E h => ?_) (fun cdv A' outer s H vs Q E hr h => ?_)
  · obtain ⟨ρ, γ, p, w, L, n, rfl, _⟩ := h
    rfl
  · obtain ⟨ρ, γ, p, w', L, n, rfl, ht, ⟨x, c⟩, hbd, hn, hl, q⟩ := h
    obtain ⟨uL, hL, rL⟩ := T.v_LEFT
    obtain ⟨uR, hR, rR⟩ := T.v_RIGHT
    obtain ⟨uO, hO, rO⟩ := T.v_ORDINARY
    refine ⟨_, pss_cons (ps_for PassesOwn.never rfl (pi_tup (pe_tup (pa_cons (pe_glob rfl hR rR) (pa_cons (pe_glob rfl hL rL) pa_nil)))) (pg_name (i := 1) sc_C_step.nd rfl (Or.inl rfl))
        (pss_one (ps_for PassesOwn.never rfl (pi_range1 (by rfl) T.b_range (pa_cons (pe_lenOf T.b_len (pe_fld (pv 0) rfl)) pa_nil)) (pg_name (i := 2) sc_C_step.nd rfl (Or.inl rfl))
          (pss_cons (ps_set (i := 3) sc_C_step.nd rfl (Or.inl rfl) (fn_meth Gd T.cl_C T.m_C_deliver hr (pv 0) (pa_cons (pv 2) (pa_cons (pv 1) pa_nil))))
          (pss_one (ps_if (pt_cmpR op_notN (pv 3) pe_non (nomark _)) (pss_one (ps_ret (pe_tup (pa_cons (pv 3) (pa_cons (pv 2) (pa_cons (pv 1) pa_nil)))))) pss_nil))))))
      (pss_cons (ps_for PassesOwn.never rfl (pi_tup (pe_tup (pa_cons pe_int (pa_cons (pe_glob rfl hO rO) pa_nil)))) (pg_name (i := 3) sc_C_step.nd rfl (Or.inl rfl))
        (pss_one (ps_for PassesOwn.never rfl (pi_tup (pe_tup (pa_cons (pe_glob rfl hR rR) (pa_cons (pe_glob rfl hL rL) pa_nil)))) (pg_name (i := 1) sc_C_step.nd rfl (Or.inl rfl))
          (pss_one (ps_for PassesOwn.never rfl (pi_range2 (by rfl) T.b_range (pa_cons pe_int (pa_cons (pe_lenOf T.b_len (pe_fld (pv 0) rfl)) pa_nil))) (pg_name (i := 4) sc_C_step.nd rfl (Or.inl rfl))
            (pss_one (ps_if (pt_val (fn_meth Gc T.cl_C T.m_C_can_forward hr (pv 0) (pa_cons (pv 4) (pa_cons (pv 1) (pa_cons (pv 3) pa_nil)))))
              (pss_cons (ps_expr (fn_meth Gp T.cl_C T.m_C_pass_on hr (pv 0) (pa_cons (pv 4) (pa_cons (pv 1) (pa_cons (pv 3) pa_nil)))))
              (pss_one (ps_ret (pe_tup (pa_cons (pe_ix ix_tup (pe_glob (v := .ref A.t_FORWARDS) rfl T.v_FORWARDS rfl) (pv 3) (fun _ _ => rfl)) (pa_cons (pv 4) (pa_cons (pv 1) pa_nil))))))) pss_nil)))))))
      (pss_one (ps_ret pe_non))), ?_⟩
    have len3 : 3 ≤ sizeLine := by decide
    refine ⟨two_le, fun t1 ht1 => ?_⟩
    have sm1 : Same H (upd H t1 (.tup [.int 1, .int 0])) := Same.new ht1
    refine ⟨t1, rfl, ⟨_, .of upd_same⟩, for_it (walk_tup (xs := [.int 1, .int 0])) (fun i σ H' => ∃ v1 v2 v3, σ = [some (.ref p), v1, v2, v3, none] ∧ Same (upd H t1 (.tup [.int 1, .int 0])) H' ∧ ∀ j, j < i → firstQ L (j == 0) = none)
      ⟨none, none, none, rfl, Same.refl _, fun j h => absurd h (Nat.not_lt_zero j)⟩ (fun i σ H' _ ⟨_, _, _, _, s, _⟩ => s.tup (.of upd_same)) ?_ ?_⟩
    · rintro i v σ H1 H' hi ⟨v1, v2, v3, rfl, s1, hb⟩ ⟨rfl, hv⟩
      have hi2 := two_get hv
      rw [two_bI hv]
      have s01 := sm1.trans s1
      have c1 := c.same ht s01
      have ht1' := ht.same s01
      refine ⟨_, rfl, p, _, x.dx, _, _, rfl, c1.o, T.cl_C, T.a_C_links, circF_links, _, _, rfl, .inl (SqL.of c1.l), ((L.length : Nat) : Int), by rw [List.length_map, c1.n], by omega, by omega, ?_⟩
      refine for_it (walk_range (lo := 0) (n := L.length)) (fun k σ H2 => ∃ v2 v3, σ = [some (.ref p), some (.int (bI (i == 0))), v2, v3, none] ∧ H2 = H' ∧ ∀ j, j < k → hasQ L (i == 0) j = false)
        ⟨v2, v3, rfl, rfl, fun j h => absurd h (Nat.not_lt_zero j)⟩ (fun _ _ _ _ _ => trivial) ?_ ?_
      · rintro k v σ H2 H3 hk ⟨v2, v3, rfl, rfl, hbk⟩ ⟨rfl, hv0⟩
        have e0 : (0 : Int) + (k : Nat) = (k : Nat) := Int.zero_add _
        rw [show v = V.int ((k : Nat) : Int) from hv0.trans (congrArg V.int e0)]
        refine ⟨_, rfl, p, x.dx, _, rfl, c1.o, circF_no (by decide +kernel), _, rfl, _, rfl, ρ, γ, p, w', L, k, (i == 0), n, rfl, ht1', ⟨x, c1⟩, hk, hbd, hn, ?_⟩
        cases hh : headC L k (i == 0) with
        | none =>
          refine ⟨_, rfl, rfl, _, rfl, if_no rfl ?_⟩
          refine ⟨_, _, rfl, rfl, fun j hj => ?_⟩
          by_cases e : j = k
          · rw [e, hasQ_head hk, hh]; rfl
          · exact hbk j (by omega)
        | some it =>
          intro ρ2 H4 s2 c2
          refine ⟨_, rfl, rfl, _, rfl, if_yes rfl ?_⟩
          refine ⟨_, rfl, _, rfl, _, rfl, len3, fun t htt => ?_⟩
          have he : evC L w' = some (.dl (i == 0) k) := evC_dl hi2 hb (firstQ_some hk (by rw [hasQ_head hk, hh]; rfl) hbk)
          refine q ρ2 _ _ (((Stp.same ht s01).trans s2).new htt) ?_ ?_
          · rw [nextL_some he]
            exact c2.stp (S := fun _ => False) (Stp.same s2.trk (Same.new htt)) fun _ _ z => z
          · rw [he]
            refine ⟨t, rfl, ?_⟩
            have ew : whatS L (.dl (i == 0) k) = kindS it := by
              unfold whatS
              dsimp only
              rw [hh]
            rw [ew]
            exact upd_same
      · rintro σ H2 ⟨v2, v3, rfl, rfl, hbk⟩
        refine ⟨_, _, _, rfl, s1, fun j hj => ?_⟩
        by_cases e : j = i
        · rw [e]; exact firstQ_none hbk
        · exact hb j (by omega)
    · rintro σ H1 ⟨v1, v2, v3, rfl, s1, hq⟩
      refine ⟨two_le, fun t2 ht2 => ?_⟩
      have sm2 : Same H (upd H1 t2 (.tup [.int 1, .int 0])) := (sm1.trans s1).trans (Same.new ht2)
      refine ⟨t2, rfl, ⟨_, .of upd_same⟩, for_it (walk_tup (xs := [.int 1, .int 0])) (fun i σ H' => ∃ v1 v3 v4, σ = [some (.ref p), v1, v2, v3, v4] ∧ Same (upd H1 t2 (.tup [.int 1, .int 0])) H' ∧ ∀ j, j < i → evF L w' (j == 0) = none)
        ⟨v1, v3, none, rfl, Same.refl _, fun j h => absurd h (Nat.not_lt_zero j)⟩ (fun i σ H' _ ⟨_, _, _, _, s, _⟩ => s.tup (.of upd_same)) ?_ ?_⟩
      · rintro i v σ H2 H' hi ⟨v1, v3, v4, rfl, s2, hb⟩ ⟨rfl, hv⟩
        have hi2 := two_get hv
        rw [two_bI hv]
        refine ⟨two_le, fun t3 ht3 => ?_⟩
        have sm3 : Same H (upd H' t3 (.tup [.int 1, .int 0])) := (sm2.trans s2).trans (Same.new ht3)
        refine ⟨t3, rfl, ⟨_, .of upd_same⟩, for_it (walk_tup (xs := [.int 1, .int 0])) (fun j σ H'' => ∃ v1 v4, σ = [some (.ref p), v1, v2, some (.int (bI (i == 0))), v4] ∧ Same (upd H' t3 (.tup [.int 1, .int 0])) H'' ∧ ∀ k, k < j → firstF L w' (i == 0) (k == 0) = none)
          ⟨v1, v4, rfl, Same.refl _, fun j h => absurd h (Nat.not_lt_zero j)⟩ (fun i σ H' _ ⟨_, _, _, s, _⟩ => s.tup (.of upd_same)) ?_ ?_⟩
        · rintro j v σ H3 H' hj ⟨v1, v4, rfl, s3, hbj⟩ ⟨rfl, hv⟩
          have hj2 := two_get hv
          rw [two_bI hv]
          have s03 := sm3.trans s3
          have c3 := c.same ht s03
          refine ⟨_, rfl, p, _, x.dx, _, _, rfl, c3.o, T.cl_C, T.a_C_links, circF_links, _, _, rfl, .inl (SqL.of c3.l), (1 : Int), ((L.length : Nat) : Int), by rw [List.length_map, c3.n], ⟨by omega, by omega, by omega, by omega⟩, ?_⟩
          have el : (((L.length : Nat) : Int) - 1).toNat = L.length - 1 := by omega
          rw [el]
          refine for_it (walk_range (lo := 1) (n := L.length - 1)) (fun k σ H2 => ∃ v4, σ = [some (.ref p), some (.int (bI (j == 0))), v2, some (.int (bI (i == 0))), v4] ∧ Same H' H2 ∧ ∀ m, 1 ≤ m → m < k + 1 → canF L w' (i == 0) (j == 0) m = false)
            ⟨v4, rfl, Same.refl _, fun m h1 h2 => absurd h2 (by omega)⟩ (fun _ _ _ _ _ => trivial) ?_ ?_
          · rintro k v σ H4 H5 hk ⟨v4, rfl, s4, hbk⟩ ⟨rfl, hv0⟩
            have e0 : (1 : Int) + (k : Nat) = ((k + 1 : Nat) : Int) := by omega
            rw [show v = V.int ((k + 1 : Nat) : Int) from hv0.trans (congrArg V.int e0)]
            have s04 := s03.trans s4
            have c4 := c.same ht s04
            have hk1 : k + 1 < L.length := by omega
            refine ⟨_, rfl, p, x.dx, _, rfl, c4.o, circF_no (by decide +kernel), _, rfl, _, rfl, _, rfl, ρ, γ, p, w', L, k + 1, (j == 0), (i == 0), rfl, ht.same s04, ⟨x, c4⟩, by omega, hk1, fun H6 s6 => ?_⟩
            have s06 := s04.trans s6
            have c6 := c.same ht s06
            refine ⟨_, rfl, ?_⟩
            cases hc : canF L w' (i == 0) (j == 0) (k + 1) with
            | false =>
              refine if_no rfl ?_
              refine ⟨_, rfl, s4.trans s6, fun m h1 h2 => ?_⟩
              by_cases e : m = k + 1
              · rw [e]; exact hc
              · exact hbk m h1 (by omega)
            | true =>
              refine if_yes rfl ?_
              have he : evC L w' = some (.fw (i == 0) (j == 0) (k + 1)) := evC_fw hi2 hq hb (evF_fw hj2 hbj (firstF_some (by omega) hk1 hc hbk))
              have hne : ((at_ L (srcOf (k + 1) (j == 0))).e (j == 0)).inn (i == 0) ≠ [] := fun z => by
                unfold canF at hc
                rw [z] at hc
                cases hc
              refine ⟨_, rfl, p, x.dx, _, rfl, c6.o, circF_no (by decide +kernel), _, rfl, _, rfl, _, rfl, ρ, γ, p, w', L, k + 1, (j == 0), (i == 0), n, rfl, ht.same s06, ⟨x, c6⟩, by omega, hk1, hbd, hn, hne, fun ρ7 H7 s7 c7 => ?_⟩
              refine ⟨_, rfl, A.t_FORWARDS, _, _, _, rfl, rfl, T.w_FORWARDS.at H7, at2 (f := fun z => .str (fwdS z)) (i == 0), _, rfl, _, rfl, len3, fun t htt => ?_⟩
              refine q ρ7 _ _ (((Stp.same ht s06).trans s7).new htt) ?_ ?_
              · rw [nextL_some he]
                exact c7.stp (S := fun _ => False) (Stp.same s7.trk (Same.new htt)) fun _ _ z => z
              · rw [he]
                exact ⟨t, rfl, upd_same⟩
          · rintro σ H4 ⟨v4, rfl, s4, hbk⟩
            refine ⟨_, _, rfl, s3.trans s4, fun k hk => ?_⟩
            by_cases e : k = j
            · rw [e]; exact firstF_none fun m h1 h2 => hbk m h1 (by omega)
            · exact hbj k (by omega)
        · rintro σ H3 ⟨v1, v4, rfl, s3, hbj⟩
          refine ⟨_, _, _, rfl, (s2.trans (Same.new ht3)).trans s3, fun k hk => ?_⟩
          by_cases e : k = i
          · rw [e]; exact evF_none hbj
          · exact hb k (by omega)
      · rintro σ H2 ⟨v1, v3, v4, rfl, s2, hb⟩
        have he : evC L w' = none := evC_none hq hb
        have s02 := sm2.trans s2
        refine q ρ H2 .non (Stp.same ht s02) ?_ ?_
        · rw [nextL_none he]
          exact ⟨x, c.same ht s02⟩
        · rw [he]; rfl
end
end Rl
end
section
set_option Elab.async false
set_option linter.all false
set_option maxRecDepth 100000
set_option maxHeartbeats 4000000
/-! RlX1: refusals: Refused, wrong_kind, out_of_range. -/
namespace Rl
open PySem PySem.Spec PyProof.Rows L2

def xF (o : Int) (z : Str) (t : Addr) : List (Str × V) := [("further", .ref t), ("message", .str z), ("order", .int o)]
/-- a refusal's fields at d -/
def XAt (K : PySem.W.Frag) (H : Hp) (d : Addr) (o : Int) (z : Str) : Prop := ∃ t, H d = some (.xd (xF o z t)) ∧ SqT K H t []
/-- what a refusal leads to -/
def RfE (K : PySem.W.Frag) (A : Adr) (H : Hp) (o : Int) (z : Str) (E : XK) : Prop := ∀ H' d, Same H H' → XAt K H' d o z → E (.ref A.c_X) (some d) H'
theorem RfE.same {K : PySem.W.Frag} {A : Adr} {H H' : Hp} {o : Int} {z : Str} {E : XK} (r : RfE K A H o z E) (s : Same H H') : RfE K A H' o z E := fun H2 d s2 h => r H2 d (s.trans s2) h
/-- C(e, ..), C an own exception class whose __init__ keeps sp: what is made has no context -/
theorem pmk_oexN {X : Cx} {CX : CXT} {x : Str} {e : Expr} {es : List Expr} {ta : TA} {p pos : Pos} {C fI : Addr} {k : Nat} {fd : FuncData} {ps : List Str} {sp : Sp} (T : OexC X.K C) (iC : PySem.W.findIn X.K (.ref C) "__init__" = some (some (.ref fI)))
    (tI : PySem.W.typeIn X.K (.ref fI) = some (.type "function")) (Fi : FnOk X.prog X.w X.K X.mg X.base CX k fI fd ps sp) (room : Room (k + 1) X.A) (hb : Binds X.K fd ps []) (hx : Passes CX X (fun _ _ _ => False)) (hg : Gl X x) (hm : X.mg x = some (.ref C)) (ha : PA X (e :: es) ta)
    (hdb : (x == ("__debug__" : Str)) = false := by decide) (he : starEach (e :: es) X.env = (false, eval e X.env) :: starEach es X.env := by rfl) (hpl : (backTo pos (starEach es X.env)).any (·.1) = false := by rfl) :
    L2N.PMk X (.Call (.Name x p) (e :: es) [] pos) (tMkO C sp [] ta) := by
  intro pins s σ H Q I hw
  obtain ⟨nm, qn, N, bs, bm, sn, sub, ab, col, dd, k0, k1, k2, k3, k5, hC, hbm⟩ := T.cls
  refine wpAny_Call_Name_kw (ld_glob I hg hm ?_ hdb)
  refine PySem.W.callWith_K (h₀ := X.base) I.ok.mod.kin T.kC (thn (ha.run pos pins s σ H _ I hw) ?_) he hpl
  intro us s1 h1
  obtain ⟨vs, H1, J, rv, few, made⟩ := h1
  refine ⟨J.kIn, ?_⟩
  show wpAny _ _ (call (.ref C) us) _ _ _
  obtain ⟨hp, gn, dr, tk, os⟩ := s1
  have above : hp.objs.size ≤ hp.objs.size + 1 := Nat.le_add_right _ 1
  have free : H1 (hp.objs.size + 1) = none := J.hok.fresh above
  have promise := made (hp.objs.size + 1) free
  rw [List.append_nil] at promise
  have old : ∀ b o, hp.get? b = some o → ((hp.push (PySem.W.kdv_tup us)).push (PySem.HandSPX.excO C hp.objs.size)).get? b = some o := by
    intro b o z
    exact Heap.get?_push_of_some _ (Heap.get?_push_of_some _ z)
  have new : ((hp.push (PySem.W.kdv_tup us)).push (PySem.HandSPX.excO C hp.objs.size)).get? (hp.objs.size + 1) = some (PySem.HandSPX.excO C hp.objs.size) := by heap_get
  have J2 := J.laid (t' := tk) (a := hp.objs.size + 1) (o := exo (hp.objs.size + 1) C none) (h' := (hp.push (PySem.W.kdv_tup us)).push (PySem.HandSPX.excO C hp.objs.size)) old above (exo_ok new)
  have all : Vals (V.ref (hp.objs.size + 1) :: vs) (Value.ref (hp.objs.size + 1) :: us) := .cons rfl rv
  have cnt : (Value.ref (hp.objs.size + 1) :: us ++ []).length = ps.length := by
    rw [List.append_nil, ← all.length]
    exact Fi.len _ _ _ _ promise
  have small : us.length ≤ sizeLine := by
    have := Paired.length rv
    rw [sizeLine_eq]
    omega
  have bound := hb _ (Value.ref (hp.objs.size + 1) :: us) J2.kIn cnt
  rw [List.append_nil] at bound
  have ve := PySem.F.excBase_ValueError
  have has : ∀ Y, _ := fun Y => PySem.HandSPX.refsVE_contains Y bm hbm
  refine wpAny_call (PySem.HandSPX.call_own ve has (J.kIn _ _ hC) (PySem.W.looks_findIn J.kIn iC) (fun self => PySem.W.bind_fn J.kIn self tI) small ?_)
  refine codeAny_mono (Fi.run _ X.stack _ _ ⟨Value.ref (hp.objs.size + 1) :: us, []⟩ (Value.ref (hp.objs.size + 1) :: us) _ _ (fun _ _ _ => False) (room.make C us []) (J2.env0.make C us []) bound all promise) ?_
  intro r s2 h2
  cases r with
  | error er => exact hx pins σ _ _ er s2 J2 h2
  | ok fl =>
    cases fl with
    | ret u =>
      obtain ⟨v, H2, os2, bare2, un2, hok2, rv2, ev, d, fs, ea, ed, hd1, q2⟩ := h2
      subst ev
      obtain ⟨hh, gg, dd2, tt, oo⟩ := s2
      obtain ⟨t0, G, J3, kG, ge, hoe, na⟩ := mk_end0 (d2 := dd2) (t2 := tt) J above old un2 hok2 os2 bare2 ea ed hd1
      refine ⟨rv2, hp.objs.size + 1, _, _, ⟨G, gg, dd2, tt, oo⟩, _, .ref C, some d, rfl, J3, kG, ge, hoe, ⟨rfl, rfl, ?_⟩, rfl, rfl, na, rfl, bare2, raises_own T.exC T.tyC, q2⟩
      intro ws z
      cases z
      rfl
    | next => exact h2.elim
    | brk => exact h2.elim
    | cont => exact h2.elim
def spXinit (A : Adr) : Sp := fun vs H Q _ => ∃ (a t : Addr) (o : Int) (z : Str), vs = [.ref a, .int o, .str z, .ref t] ∧ H a = some (exo a A.c_X none) ∧
  ∀ H' dx, H dx = none → dx ≠ a → H' a = some (exo a A.c_X (some dx)) → H' dx = some (exd dx (xF o z t)) → (∀ b, b ≠ a → b ≠ dx → H' b = H b) → Q .non H'
def spWrong (K : PySem.W.Frag) (A : Adr) (o : Int) : Sp := fun vs H Q E => ∃ (b : Bool) (z : Str), vs = [.bl b, .str z] ∧ (b = false → Q .non H) ∧ (b = true → RfE K A H o z E)
section
variable {P : Program} {w : World} {K : PySem.W.Frag} {mg : Str → Option Value} {base : Heap} {A : Adr}
theorem ok_X_init (T : Txt K mg A) : Ok P w K mg base CX0 1 A.f_X_init p_X_init (spXinit A) := by
  refine ok_of T.F_X_init sc_X_init (fun vs H Q E h => ?_) (fun cdv A' outer s H vs Q E hr h => ?_)
  · obtain ⟨a, t, o, z, rfl, _⟩ := h
    rfl
  · obtain ⟨a, t, o, z, rfl, ha, q⟩ := h
    refine ⟨_, pss_cons (ps_ost (pv 0) (pv 1)) (pss_cons (ps_ost (pv 0) (pv 2)) (pss_one (ps_ost (pv 0) (pv 3)))), ?_⟩
    refine ⟨_, rfl, _, rfl, a, A.c_X, rfl, T.oex, T.x_order, .inl ⟨ha, fun dx hdx hne => ?_⟩⟩
    have hax : ∀ {H : Hp} {u v : HO}, (upd (upd H dx u) a v) dx = some u := fun {H u v} => by rw [upd_ne hne, upd_same]
    refine ⟨_, rfl, _, rfl, a, A.c_X, rfl, T.oex, T.x_message, .inr ⟨dx, _, upd_same, hax, (show 1 ≤ 900 by decide), ?_⟩⟩
    refine ⟨_, rfl, _, rfl, a, A.c_X, rfl, T.oex, T.x_further, .inr ⟨dx, _, by rw [upd_ne (fun z => hne z.symm), upd_same], upd_same, (show 2 ≤ 900 by decide), ?_⟩⟩
    refine q _ dx hdx hne ?_ upd_same fun b h1 h2 => ?_
    · rw [upd_ne (fun z => hne z.symm), upd_ne (fun z => hne z.symm), upd_same]
    · rw [upd_ne h2, upd_ne h2, upd_ne h1, upd_ne h2]
theorem raise_gives {H1 H2 : Hp} {a d t : Addr} {o : Int} {z : Str} {E : XK} {H : Hp} (hs : Same H H1) (ha : H1 a = none) (hd : H1 d = none) (ht : H1 t = some (.tup [])) (hr : ∀ b, b ≠ a → b ≠ d → H2 b = (upd H1 a (exo a A.c_X none)) b) (r : RfE K A H o z E) : E (.ref A.c_X) (some d) (upd (del H2 a) d (.xd (xF o z t))) := by
  have e : Same H1 (upd (del H2 a) d (.xd (xF o z t))) := fun b u hb => by
    have h1 : b ≠ a := ne_of_none hb ha
    have h2 : b ≠ d := ne_of_none hb hd
    rw [upd_ne h2, del_ne h1, hr b h1 h2, upd_ne h1, hb]
  exact r _ d (hs.trans e) ⟨t, upd_same, .of (e _ _ ht)⟩
theorem ok_wrong_kind (T : Txt K mg A) : Ok P w K mg base (L2N.CX P w) 3 A.f_wrong_kind p_wrong_kind (spWrong K A 1) := by
  obtain ⟨fd, F, b, _⟩ := ok_X_init (P := P) (w := w) (base := base) T
  refine okX_of T.F_wrong_kind sc_wrong_kind (fun vs H Q E h => ?_) (fun cdv A' outer s H vs Q E hr h => ?_)
  · obtain ⟨b, z, rfl, _⟩ := h
    rfl
  · obtain ⟨k, z, rfl, q1, q2⟩ := h
    refine ⟨_, pss_one (ps_if (pt_val (pv 0)) (pss_one (L2N.ps_raise rfl (L2N.takes_of rfl rfl rfl rfl) (pmk_oexN T.oex T.iX T.tX F hr b pass0 (by rfl) T.gc_X (pa_cons pe_int (pa_cons (pv 1) (pa_cons (pe_tup pa_nil) pa_nil)))))) pss_nil), ?_⟩
    refine ⟨_, rfl, _, rfl, ?_⟩
    cases k with
    | false => exact if_no rfl (q1 rfl)
    | true =>
      refine if_yes rfl ?_
      refine ⟨_, rfl, Nat.zero_le _, fun t ht => ?_⟩
      refine ⟨(by show 3 ≤ 1000; decide), fun a ha => ?_⟩
      refine ⟨a, t, 1, z, rfl, upd_same, fun H2 dx hdx hne h1 h2 h3 => ⟨rfl, dx, _, h1, h2, ?_, ?_⟩⟩
      · rw [upd_ne hne] at hdx; exact hdx
      · exact raise_gives (Same.new ht) ha (by rw [upd_ne hne] at hdx; exact hdx) upd_same h3 (q2 rfl)
theorem ok_out_of_range (T : Txt K mg A) : Ok P w K mg base (L2N.CX P w) 3 A.f_out_of_range p_out_of_range (spWrong K A 2) := by
  obtain ⟨fd, F, b, _⟩ := ok_X_init (P := P) (w := w) (base := base) T
  refine okX_of T.F_out_of_range sc_out_of_range (fun vs H Q E h => ?_) (fun cdv A' outer s H vs Q E hr h => ?_)
  · obtain ⟨b, z, rfl, _⟩ := h
    rfl
  · obtain ⟨k, z, rfl, q1, q2⟩ := h
    refine ⟨_, pss_one (ps_if (pt_val (pv 0)) (pss_one (L2N.ps_raise rfl (L2N.takes_of rfl rfl rfl rfl) (pmk_oexN T.oex T.iX T.tX F hr b pass0 (by rfl) T.gc_X (pa_cons pe_int (pa_cons (pv 1) (pa_cons (pe_tup pa_nil) pa_nil)))))) pss_nil), ?_⟩
    refine ⟨_, rfl, _, rfl, ?_⟩
    cases k with
    | false => exact if_no rfl (q1 rfl)
    | true =>
      refine if_yes rfl ?_
      refine ⟨_, rfl, Nat.zero_le _, fun t ht => ?_⟩
      refine ⟨(by show 3 ≤ 1000; decide), fun a ha => ?_⟩
      refine ⟨a, t, 2, z, rfl, upd_same, fun H2 dx hdx hne h1 h2 h3 => ⟨rfl, dx, _, h1, h2, ?_, ?_⟩⟩
      · rw [upd_ne hne] at hdx; exact hdx
      · exact raise_gives (Same.new ht) ha (by rw [upd_ne hne] at hdx; exact hdx) upd_same h3 (q2 rfl)
end
end Rl
end
section
set_option Elab.async false
set_option linter.all false
set_option maxRecDepth 100000
set_option maxHeartbeats 4000000
/-! RlA1: what is read out of arguments: is_integer, number_of, member, side_of. -/
namespace Rl
open PySem PySem.Spec PyProof.Rows L2
open RWire (Value)

/-! ### values as data -/
def iD (l : List UInt8) : List PyData := l.map fun b => .int (b.toNat : Nat)
mutual
def dV : RWire.Value → PyData
  | .nothing => .tuple [.int 0]
  | .null => .tuple [.int 1]
  | .bool b => .tuple [.int (if b then 3 else 2)]
  | .int i => .tuple [.int 4, .int i]
  | .text u => .tuple [.int 6, .tuple (iD u)]
  | .list l => .tuple [.int 7, .tuple (dVs l)]
  | .record l => .tuple [.int 8, .tuple (dVe l)]
  | .big _ => .none
  | .octets _ => .none
  | .wide _ => .none
def dVs : List RWire.Value → List PyData
  | [] => []
  | v :: r => dV v :: dVs r
def dVe : List (RWire.Text × RWire.Value) → List PyData
  | [] => []
  | e :: r => .tuple [.tuple (iD e.1), dV e.2] :: dVe r
end
section
variable {K : PySem.W.Frag} {H : Hp}
theorem dp_iD : ∀ (l : List UInt8), DpAll K H (oV l) (iD l)
  | [] => .nil
  | _ :: r => .cons (.int _) (dp_iD r)
mutual
theorem dp_V : ∀ (v : RWire.Value) (x : V), VR K H v x → Dp K H x (dV v)
  | .nothing, x, h => by
    unfold VR at h; obtain ⟨p, rfl, q⟩ := h; unfold dV
    exact .tup q (.cons (.int _) .nil)
  | .null, x, h => by
    unfold VR at h; obtain ⟨p, rfl, q⟩ := h; unfold dV
    exact .tup q (.cons (.int _) .nil)
  | .bool b, x, h => by
    unfold VR at h; obtain ⟨p, rfl, q⟩ := h; unfold dV
    exact .tup q (.cons (.int _) .nil)
  | .int i, x, h => by
    unfold VR at h; obtain ⟨p, rfl, q⟩ := h; unfold dV
    exact .tup q (.cons (.int _) (.cons (.int _) .nil))
  | .text u, x, h => by
    unfold VR at h; obtain ⟨p, q, rfl, h1, h2⟩ := h; unfold dV
    exact .tup h1 (.cons (.int _) (.cons (.tup h2 (dp_iD u)) .nil))
  | .list l, x, h => by
    unfold VR at h; obtain ⟨p, q, xs, rfl, h1, h2, h3⟩ := h; unfold dV
    exact .tup h1 (.cons (.int _) (.cons (.tup h2 (dp_Vs l xs h3)) .nil))
  | .record l, x, h => by
    unfold VR at h; obtain ⟨p, q, xs, rfl, h1, h2, h3⟩ := h; unfold dV
    exact .tup h1 (.cons (.int _) (.cons (.tup h2 (dp_Ve l xs h3)) .nil))
  | .big _, x, h => by unfold VR at h; exact h.elim
  | .octets _, x, h => by unfold VR at h; exact h.elim
  | .wide _, x, h => by unfold VR at h; exact h.elim
theorem dp_Vs : ∀ (l : List RWire.Value) (xs : List V), VRs K H l xs → DpAll K H xs (dVs l)
  | [], xs, h => by unfold VRs at h; subst h; unfold dVs; exact .nil
  | v :: r, xs, h => by
    unfold VRs at h; obtain ⟨x, ys, rfl, h1, h2⟩ := h; unfold dVs
    exact .cons (dp_V v x h1) (dp_Vs r ys h2)
theorem dp_Ve : ∀ (l : List (RWire.Text × RWire.Value)) (xs : List V), VRe K H l xs → DpAll K H xs (dVe l)
  | [], xs, h => by unfold VRe at h; subst h; unfold dVe; exact .nil
  | e :: r, xs, h => by
    unfold VRe at h; obtain ⟨a, n, y, ys, rfl, h1, h2, h3, h4⟩ := h; unfold dVe
    exact .cons (.tup h1 (.cons (.tup h2 (dp_iD e.1)) (.cons (dp_V e.2 y h3) .nil))) (dp_Ve r ys h4)
end
end
theorem lay_iD : ∀ (l : List UInt8), PyData.canLayAll0 (iD l) = true
  | [] => rfl
  | _ :: r => lay_iD r
mutual
theorem lay_V : ∀ (v : RWire.Value), (dV v).canLay0 = true
  | .nothing => by unfold dV; rfl
  | .null => by unfold dV; rfl
  | .bool b => by unfold dV; rfl
  | .int i => by unfold dV; rfl
  | .text u => by
    unfold dV
    show (true && (PyData.canLayAll0 (iD u) && true)) = true
    rw [lay_iD]; rfl
  | .list l => by
    unfold dV
    show (true && (PyData.canLayAll0 (dVs l) && true)) = true
    rw [lay_Vs l]; rfl
  | .record l => by
    unfold dV
    show (true && (PyData.canLayAll0 (dVe l) && true)) = true
    rw [lay_Ve l]; rfl
  | .big _ => by unfold dV; rfl
  | .octets _ => by unfold dV; rfl
  | .wide _ => by unfold dV; rfl
theorem lay_Vs : ∀ (l : List RWire.Value), PyData.canLayAll0 (dVs l) = true
  | [] => by unfold dVs; rfl
  | v :: r => by
    unfold dVs
    show ((dV v).canLay0 && PyData.canLayAll0 (dVs r)) = true
    rw [lay_V v, lay_Vs r]; rfl
theorem lay_Ve : ∀ (l : List (RWire.Text × RWire.Value)), PyData.canLayAll0 (dVe l) = true
  | [] => by unfold dVe; rfl
  | e :: r => by
    unfold dVe
    show ((PyData.canLayAll0 (iD e.1) && ((dV e.2).canLay0 && true)) && PyData.canLayAll0 (dVe r)) = true
    rw [lay_iD, lay_V e.2, lay_Ve r]; rfl
end
/-! ### == and in of data, the right side not deep -/
def rEqX (K : PySem.W.Frag) : R2 := fun x y H Q => ∃ d e, Dp K H x d ∧ Dp K H y e ∧ d.canLay0 = true ∧ e.canLay0 = true ∧ e.depth ≤ 60 ∧ Q (.bl (PyData.eqv d e)) H
theorem op_eqX {X : Cx} (hu : X.A.units + 64 < cLine) : OpR X (compareOp .Eq) (rEqX X.K) := by
  intro pins s σ H x y v u Q I rx ry h
  obtain ⟨d, e, hd, he, sd, se, sz, q⟩ := h
  obtain ⟨as, r1⟩ := Dp.reads I d x v hd rx
  obtain ⟨bs, r2⟩ := Dp.reads I e y u he ry
  exact SeqAt.compareEq_reads r1 r2 sd se (by have := Nat.min_le_right d.depth e.depth; omega) ⟨.bl _, H, I, rfl, q⟩
def rNotInX (K : PySem.W.Frag) : R2 := fun x y H Q => ∃ d es, Dp K H x d ∧ Dp K H y (.tuple es) ∧ d.canLay0 = true ∧ PyData.canLayAll0 es = true ∧ PyData.depthAll es ≤ 60 ∧ Q (.bl (!es.any fun z => PyData.eqv z d)) H
theorem op_notInX {X : Cx} (hu : X.A.units + 64 < cLine) : OpR X (compareOp .NotIn) (rNotInX X.K) := by
  intro pins s σ H x y v u Q I rx ry h
  obtain ⟨d, es, hd, he, sd, se, sz, q⟩ := h
  obtain ⟨as, r1⟩ := Dp.reads I d x v hd rx
  obtain ⟨bs, r2⟩ := Dp.reads I (.tuple es) y u he ry
  exact SeqAt.notIn_tuple_reads r2 r1 se sd (by have := Nat.min_le_left (PyData.depthAll es) d.depth; omega) ⟨.bl _, H, I, rfl, q⟩
theorem eqv_iD : ∀ (l m : List UInt8), PyData.eqvAll (iD l) (iD m) = decide (l = m)
  | [], [] => rfl
  | [], _ :: _ => rfl
  | _ :: _, [] => rfl
  | a :: r, b :: t => by
    have ih := eqv_iD r t
    show (((a.toNat : Int) == (b.toNat : Int)) && PyData.eqvAll (iD r) (iD t)) = decide (a :: r = b :: t)
    rw [ih, Bool.eq_iff_iff, Bool.and_eq_true, beq_iff_eq, decide_eq_true_iff, decide_eq_true_iff, List.cons.injEq]
    constructor
    · rintro ⟨h1, h2⟩
      exact ⟨UInt8.toNat_inj.mp (by omega), h2⟩
    · rintro ⟨h1, h2⟩
      exact ⟨by rw [h1], h2⟩
theorem depth_iD : ∀ (l : List UInt8), PyData.depthAll (iD l) = 0
  | [] => rfl
  | a :: r => by
    show max 0 (PyData.depthAll (iD r)) = 0
    rw [depth_iD r]; rfl

/-! ### tags -/
def tagOf : RWire.Value → Int
  | .nothing => 0
  | .null => 1
  | .bool b => if b then 3 else 2
  | .int _ => 4
  | .text _ => 6
  | .list _ => 7
  | .record _ => 8
  | _ => 9
theorem VR.tag {K : PySem.W.Frag} {H : Hp} {v : RWire.Value} {x : V} (h : VR K H v x) : ∃ p xs, x = .ref p ∧ SqT K H p (.int (tagOf v) :: xs) := by
  cases v with
  | nothing => unfold VR at h; obtain ⟨p, e, q⟩ := h; exact ⟨p, _, e, q⟩
  | null => unfold VR at h; obtain ⟨p, e, q⟩ := h; exact ⟨p, _, e, q⟩
  | bool b => unfold VR at h; obtain ⟨p, e, q⟩ := h; exact ⟨p, _, e, q⟩
  | int i => unfold VR at h; obtain ⟨p, e, q⟩ := h; exact ⟨p, _, e, q⟩
  | text u => unfold VR at h; obtain ⟨p, q, e, h1, h2⟩ := h; exact ⟨p, _, e, h1⟩
  | list l => unfold VR at h; obtain ⟨p, q, xs, e, h1, _⟩ := h; exact ⟨p, _, e, h1⟩
  | record l => unfold VR at h; obtain ⟨p, q, xs, e, h1, _⟩ := h; exact ⟨p, _, e, h1⟩
  | big _ => unfold VR at h; exact h.elim
  | octets _ => unfold VR at h; exact h.elim
  | wide _ => unfold VR at h; exact h.elim
def isIntV (v : RWire.Value) (a b : Int) : Bool := match v with
  | .int i => decide (a ≤ i) && decide (i ≤ b)
  | _ => false
theorem tag_int {v : RWire.Value} (h : tagOf v = 4) : ∃ i, v = .int i := by
  cases v with
  | int i => exact ⟨i, rfl⟩
  | bool b => cases b <;> cases h
  | _ => cases h
def memberV : List (RWire.Text × RWire.Value) → RWire.Text → RWire.Value
  | [], _ => .nothing
  | e :: r, u => if e.1 = u then e.2 else memberV r u
theorem memberV_get : ∀ {l : List (RWire.Text × RWire.Value)} {u : RWire.Text} {i : Nat} {e : RWire.Text × RWire.Value}, l[i]? = some e → e.1 = u → (∀ j, j < i → ∀ f, l[j]? = some f → f.1 ≠ u) → memberV l u = e.2
  | [], _, _, _, h, _, _ => by simp at h
  | f :: r, u, 0, e, h, he, _ => by
    cases h
    unfold memberV
    rw [if_pos he]
  | f :: r, u, i + 1, e, h, he, hb => by
    unfold memberV
    rw [if_neg (hb 0 (by omega) f rfl)]
    exact memberV_get (i := i) h he fun j hj f' hf => hb (j + 1) (by omega) f' hf
theorem memberV_none : ∀ {l : List (RWire.Text × RWire.Value)} {u : RWire.Text}, (∀ (j : Nat) (f : RWire.Text × RWire.Value), l[j]? = some f → f.1 ≠ u) → memberV l u = .nothing
  | [], _, _ => rfl
  | f :: r, u, hb => by
    unfold memberV
    rw [if_neg (hb 0 f rfl)]
    exact memberV_none fun j f' hf => hb (j + 1) f' hf
def oL : List UInt8 := [108, 101, 102, 116]
def oR : List UInt8 := [114, 105, 103, 104, 116]
def sideV : RWire.Value → Option Bool
  | .text u => if u = oL then some false else if u = oR then some true else none
  | _ => none
def sText (s : Bool) : Str := if s then "right" else "left"
def numMsg (name : Str) (a b : Nat) : Str := name ++ " must be an integer from " ++ (toString ((a : Nat) : Int) : String) ++ " to " ++ (toString ((b : Nat) : Int) : String)
def sideMsg (name : Str) : Str := name ++ " must be 'left' or 'right'"

def spIsInt (K : PySem.W.Frag) : Sp := fun vs H Q _ => ∃ (x : V) (v : RWire.Value) (a b : Int), vs = [x, .int a, .int b] ∧ VR K H v x ∧ Q (.bl (isIntV v a b)) H
def spNumOf (K : PySem.W.Frag) (A : Adr) : Sp := fun vs H Q E => ∃ (x : V) (v : RWire.Value) (name : Str) (a b : Nat), vs = [x, .str name, .int a, .int b] ∧ VR K H v x ∧ name.length ≤ 100 ∧ a ≤ 1000 ∧ b ≤ 1000 ∧
  (∀ n : Nat, v = .int n → a ≤ n → n ≤ b → Q (.int n) H) ∧ (isIntV v a b = false → RfE K A H 1 (numMsg name a b) E)
def spMember (K : PySem.W.Frag) : Sp := fun vs H Q _ => ∃ (x : V) (l : List (RWire.Text × RWire.Value)) (name : Str) (u : List UInt8), vs = [x, .str name] ∧ VR K H (.record l) x ∧ name.length ≤ 1000 ∧ cV name = oV u ∧
  ∀ H' y, Same H H' → VR K H' (memberV l u) y → Q y H'
def spSideOf (K : PySem.W.Frag) (A : Adr) : Sp := fun vs H Q E => ∃ (x : V) (v : RWire.Value) (name : Str), vs = [x, .str name] ∧ VR K H v x ∧ name.length ≤ 100 ∧
  match sideV v with
  | some s => ∀ H', Same H H' → Q (.int (bI s)) H'
  | none => RfE K A H 1 (sideMsg name) E
theorem tos_len : ∀ n : Nat, n ≤ 1000 → ((toString ((n : Nat) : Int) : String) : Str).length ≤ 10 := by
  have h : (List.range 1001).all (fun n => decide (((toString ((n : Nat) : Int) : String) : Str).length ≤ 10)) = true := by decide +kernel
  intro n hn
  exact of_decide_eq_true (List.all_eq_true.mp h n (List.mem_range.mpr (by omega)))
theorem app_len (a b : Str) : (a ++ b).length = a.length + b.length := by
  show (a.cps ++ b.cps).size = _
  rw [Array.size_append]; rfl
end Rl
end
section
set_option Elab.async false
set_option linter.all false
set_option maxRecDepth 100000
set_option maxHeartbeats 4000000
/-! RlA2: is_integer, number_of, octet_of, member, side_of walked. -/
namespace Rl
open PySem PySem.Spec PyProof.Rows L2

section
variable {P : Program} {w : World} {K : PySem.W.Frag} {mg : Str → Option Value} {base : Heap} {A : Adr}
theorem ok_is_integer (T : Txt K mg A) : Ok P w K mg base CX0 1 A.f_is_integer p_is_integer (spIsInt K) := by
  refine ok_of T.F_is_integer sc_is_integer (fun vs H Q E h => ?_) (fun cdv A' outer s H vs Q E hr h => ?_)
  · obtain ⟨x, v, a, b, rfl, _⟩ := h
    rfl
  · obtain ⟨x, v, a, b, rfl, hv, q⟩ := h
    obtain ⟨uI, hI, rI⟩ := T.v_INTEGER
    refine ⟨_, pss_one (ps_ret (pe_and (pe_cmpR op_eq (pe_ix ix_tup (pv 0) pe_int (fun _ _ => rfl)) (pe_glob rfl hI rI) (nomark _)) (pe_one (pe_chain op_le op_le (pv 1) (pe_ix ix_tup (pv 0) pe_int (fun _ _ => rfl)) (pv 2))))), ?_⟩
    obtain ⟨p, xs, rfl, ht⟩ := hv.tag
    refine ⟨_, rfl, p, _, _, _, rfl, rfl, ht, atI_nat (j := 0) rfl, rfl, _, rfl, ?_⟩
    by_cases h4 : tagOf v = 4
    · obtain ⟨i, rfl⟩ := tag_int h4
      unfold VR at hv
      obtain ⟨p', e, hv⟩ := hv
      cases e
      refine if_yes rfl ?_
      refine ⟨_, rfl, _, rfl, p, _, _, _, rfl, rfl, hv, atI_nat (j := 1) rfl, _, _, rfl, rfl, _, rfl, ?_⟩
      have q : Q (.bl (decide (a ≤ i) && decide (i ≤ b))) H := q
      cases h : decide (a ≤ i) with
      | true =>
        rw [h, Bool.true_and] at q
        refine if_yes rfl ?_
        exact ⟨_, rfl, _, _, rfl, rfl, q⟩
      | false =>
        rw [h, Bool.false_and] at q
        exact if_no rfl q
    · have e : isIntV v a b = false := by
        cases v with
        | int i => exact absurd rfl h4
        | _ => rfl
      rw [e] at q
      refine if_no (decide_eq_false fun z => h4 (V.int.inj z)) q
theorem ok_number_of (T : Txt K mg A) : Ok P w K mg base (L2N.CX P w) 4 A.f_number_of p_number_of (spNumOf K A) := by
  have Gi := ok_is_integer (P := P) (w := w) (base := base) T
  have Gw := ok_wrong_kind (P := P) (w := w) (base := base) T
  refine okX_of T.F_number_of sc_number_of (fun vs H Q E h => ?_) (fun cdv A' outer s H vs Q E hr h => ?_)
  · obtain ⟨x, v, name, a, b, rfl, _⟩ := h
    rfl
  · obtain ⟨x, v, name, a, b, rfl, hv, hn, ha, hb, q1, q2⟩ := h
    refine ⟨_, pss_cons (ps_set (i := 4) sc_number_of.nd rfl (Or.inl rfl) (pe_not (fn_call Gi T.g_is_integer hr (pa_cons (pv 0) (pa_cons (pv 2) (pa_cons (pv 3) pa_nil))))))
      (pss_cons (ps_expr (fn_callX Gw T.g_wrong_kind hr (L2N.takes_of rfl rfl rfl rfl) (fun _ _ _ _ h => h) (pa_cons (pv 4) (pa_cons (pe_op op_add_str (pe_op op_add_str (pe_op op_add_str (pe_op op_add_str (pv 1) pe_str)
        (pe_callTy call_str_int (by rfl) T.b_str (by decide +kernel) (pa_cons (pv 2) pa_nil))) pe_str) (pe_callTy call_str_int (by rfl) T.b_str (by decide +kernel) (pa_cons (pv 3) pa_nil))) pa_nil))))
      (pss_one (ps_ret (pe_ix ix_tup (pv 0) pe_int (fun _ _ => rfl))))), ?_⟩
    have la := tos_len a ha
    have lb := tos_len b hb
    have lc : (" must be an integer from " : Str).length = 25 := by decide +kernel
    have ld : (" to " : Str).length = 4 := by decide +kernel
    have lg : ∀ n : Nat, n ≤ 1000 → ((n : Nat) : Int).natAbs.log2 < 1920 := by
      intro n hn
      have := Nat.log2_le_self n
      show n.log2 < 1920
      omega
    refine ⟨_, rfl, _, rfl, _, rfl, x, v, a, b, rfl, hv, _, rfl, ?_⟩
    refine ⟨_, rfl, _, rfl, _, _, rfl, rfl, sz_le (by omega), _, rfl, _, rfl, lg a ha, _, _, rfl, rfl, sz_le (by rw [app_len]; omega), _, _, rfl, rfl, sz_le (by rw [app_len, app_len]; omega), _, rfl, _, rfl, lg b hb, _, _, rfl, rfl, sz_le (by rw [app_len, app_len, app_len]; omega), ?_⟩
    refine ⟨!isIntV v a b, numMsg name a b, rfl, fun hf => ?_, fun ht => q2 (by cases h : isIntV v a b <;> rw [h] at ht <;> first | rfl | cases ht)⟩
    have hi : isIntV v a b = true := by cases h : isIntV v a b <;> rw [h] at hf <;> first | rfl | cases hf
    cases v with
    | int i =>
      have hi : (decide ((a : Int) ≤ i) && decide (i ≤ (b : Int))) = true := hi
      rw [Bool.and_eq_true, decide_eq_true_iff, decide_eq_true_iff] at hi
      obtain ⟨n, rfl⟩ : ∃ n : Nat, i = n := ⟨i.toNat, by omega⟩
      unfold VR at hv
      obtain ⟨p, rfl, hv⟩ := hv
      exact ⟨_, rfl, p, _, _, _, rfl, rfl, hv, atI_nat (j := 1) rfl, q1 n rfl (by omega) (by omega)⟩
    | _ => cases hi
theorem ok_member (T : Txt K mg A) : Ok P w K mg base CX0 2 A.f_member p_member (spMember K) := by
  have G := ok_codes_of (P := P) (w := w) (base := base) T
  refine ok_of T.F_member sc_member (fun vs H Q E h => ?_) (fun cdv A' outer s H vs Q E hr h => ?_)
  · obtain ⟨x, l, name, u, rfl, _⟩ := h
    rfl
  · obtain ⟨x, l, name, u, rfl, hv, hn, hu, q⟩ := h
    refine ⟨_, pss_cons (ps_for PassesOwn.never rfl (pi_tup (pe_ix ix_tup (pv 0) pe_int (fun _ _ => rfl))) (pg_tup rfl (pgs_cons (pg_name (i := 2) sc_member.nd rfl (Or.inl rfl)) (pgs_cons (pg_name (i := 3) sc_member.nd rfl (Or.inl rfl)) pgs_nil)))
        (pss_one (ps_if (pt_cmpR (op_eqX hr.units) (pe_tupOf T.b_tuple (pv 2)) (fn_call G T.g_codes_of hr (pa_cons (pv 1) pa_nil)) (nomark _)) (pss_one (ps_ret (pv 3))) pss_nil)))
      (pss_one (ps_ret (pe_glob (v := .ref A.t_NOTHING) rfl T.v_NOTHING rfl))), ?_⟩
    unfold VR at hv
    obtain ⟨p, g, xs, rfl, hp, hg, he⟩ := hv
    refine ⟨_, rfl, p, _, _, _, rfl, rfl, hp, atI_nat (j := 1) rfl, g, rfl, ⟨_, hg⟩, for_it (walk_tup (xs := xs)) (fun i σ H' => ∃ v2 v3, σ = [some (.ref p), some (.str name), v2, v3] ∧ Same H H' ∧ ∀ j, j < i → ∀ f, l[j]? = some f → f.1 ≠ u)
      ⟨none, none, rfl, Same.refl _, fun j h => absurd h (Nat.not_lt_zero j)⟩ (fun i σ H' _ ⟨_, _, _, s, _⟩ => s.tup hg) ?_ ?_⟩
    · rintro i v σ H1 H' hi ⟨v2, v3, rfl, s1, hb⟩ ⟨rfl, hv⟩
      have hle := he.length
      obtain ⟨e, hei⟩ : ∃ e, l[i]? = some e := ⟨_, List.getElem?_eq_getElem (by omega)⟩
      obtain ⟨t, n, y, ht, h1, h2, h3⟩ := VRe.get he hei
      rw [ht] at hv
      cases hv
      refine ⟨t, _, rfl, s1.tup h1, rfl, _, _, rfl, _, _, rfl, rfl, ?_⟩
      refine ⟨_, rfl, n, _, rfl, .inr ⟨s1.tup h2, ?_⟩⟩
      refine ⟨_, rfl, name, rfl, hn, fun H2 c s2 hc => ?_⟩
      refine ⟨.tuple (iD e.1), .tuple (iD u), .tup (s2.tup (s1.tup h2)) (dp_iD _), .tup (.of (by rw [hc, hu])) (dp_iD _), lay_iD _, lay_iD _, (by show PyData.depthAll (iD u) + 1 ≤ 60; rw [depth_iD]; decide), ?_⟩
      have eq : PyData.eqv (.tuple (iD e.1)) (.tuple (iD u)) = decide (e.1 = u) := eqv_iD e.1 u
      rw [eq]
      refine ⟨_, rfl, ?_⟩
      have s12 := s1.trans s2
      by_cases h : e.1 = u
      · refine if_yes (decide_eq_true h) ?_
        refine ⟨_, rfl, q _ _ s12 ?_⟩
        rw [memberV_get hei h hb]
        exact VR.tst s12.tst _ _ h3
      · refine if_no (decide_eq_false h) ?_
        refine ⟨_, _, rfl, s12, fun j hj f hf => ?_⟩
        by_cases hji : j = i
        · subst hji
          rw [hei] at hf
          cases hf
          exact h
        · exact hb j (by omega) f hf
    · rintro σ H1 ⟨v2, v3, rfl, s1, hb⟩
      refine q _ _ s1 ?_
      rw [memberV_none fun j f hf => hb j (by have := (List.getElem?_eq_some_iff.mp hf).1; have := he.length; omega) f hf]
      unfold VR
      exact ⟨_, rfl, T.w_NOTHING.at _⟩
theorem ok_side_of (T : Txt K mg A) : Ok P w K mg base (L2N.CX P w) 4 A.f_side_of p_side_of (spSideOf K A) := by
  have G := ok_codes_of (P := P) (w := w) (base := base) T
  have Gw := ok_wrong_kind (P := P) (w := w) (base := base) T
  refine okX_of T.F_side_of sc_side_of (fun vs H Q E h => ?_) (fun cdv A' outer s H vs Q E hr h => ?_)
  · obtain ⟨x, v, name, rfl, _⟩ := h
    rfl
  · obtain ⟨x, v, name, rfl, hv, hn, q⟩ := h
    obtain ⟨uL, hL, rL⟩ := T.v_LEFT
    obtain ⟨uR, hR, rR⟩ := T.v_RIGHT
    obtain ⟨uT, hT, rT⟩ := T.v_TEXT
    refine ⟨_, pss_cons (ps_for (passes_of rfl) rfl (pi_tup (pe_tup (pa_cons (pe_glob rfl hL rL) (pa_cons (pe_glob rfl hR rR) pa_nil)))) (pg_name (i := 2) sc_side_of.nd rfl (Or.inl rfl))
        (pss_one (ps_if (PW.pt (pw_and (pt_cmpR op_eq (pe_ix ix_tup (pv 0) pe_int (fun _ _ => rfl)) (pe_glob rfl hT rT) (nomark _))
          (pw_and1 (pt_cmpR (op_eqX hr.units) (pe_tupOf T.b_tuple (pe_ix ix_tup (pv 0) pe_int (fun _ _ => rfl))) (fn_call G T.g_codes_of hr (pa_cons (pe_ix ix_tup (pe_glob (v := .ref A.t_SIDES) rfl T.v_SIDES rfl) (pv 2) (fun _ _ => rfl)) pa_nil)) (nomark _)))))
          (pss_one (ps_ret (pv 2))) pss_nil)))
      (pss_cons (ps_expr (fn_callX Gw T.g_wrong_kind hr (L2N.takes_of rfl rfl rfl rfl) (fun _ _ _ _ h => h) (pa_cons pe_bl (pa_cons (pe_op op_add_str (pv 1) pe_str) pa_nil))))
      (pss_one (ps_ret (pe_glob rfl hL rL)))), ?_⟩
    have sd : ∀ s, (sText s).length ≤ 1000 ∧ cV (sText s) = oV (if s then oR else oL) := by
      intro s
      cases s
      · exact ⟨by decide +kernel, by decide +kernel⟩
      · exact ⟨by decide +kernel, by decide +kernel⟩
    obtain ⟨p, xs, rfl, ht⟩ := hv.tag
    refine ⟨two_le, fun t1 ht1 => ?_⟩
    have sm1 : Same H (upd H t1 (.tup [.int 0, .int 1])) := Same.new ht1
    refine ⟨t1, rfl, ⟨_, .of upd_same⟩, for_it (walk_tup (xs := [.int 0, .int 1])) (fun i σ H' => ∃ v2, σ = [some (.ref p), some (.str name), v2] ∧ Same (upd H t1 (.tup [.int 0, .int 1])) H' ∧ ∀ j, j < i → v ≠ .text (if j = 1 then oR else oL))
      ⟨none, rfl, Same.refl _, fun j h => absurd h (Nat.not_lt_zero j)⟩ (fun i σ H' _ ⟨_, _, s, _⟩ => s.tup (.of upd_same)) ?_ ?_⟩
    · rintro i y σ H1 H' hi ⟨v2, rfl, s1, hb⟩ ⟨rfl, hy⟩
      have hi2 := two_get hy
      have ey : y = .int (bI (i == 1)) := by
        match i, hy with
        | 0, hy => cases hy; rfl
        | 1, hy => cases hy; rfl
      have ei : (if i = 1 then oR else oL) = (if (i == 1) then oR else oL) := by simp
      rw [ey]
      have s01 := sm1.trans s1
      refine ⟨_, rfl, p, _, _, _, rfl, rfl, s01.tup ht, atI_nat (j := 0) rfl, rfl, _, rfl, ?_⟩
      by_cases h6 : tagOf v = 6
      · obtain ⟨u, rfl⟩ : ∃ u, v = .text u := by
          cases v with
          | text u => exact ⟨u, rfl⟩
          | bool b => cases b <;> cases h6
          | _ => cases h6
        unfold VR at hv
        obtain ⟨p', g, e, h1, h2⟩ := hv
        cases e
        refine if_yes rfl ?_
        refine ⟨_, rfl, p, _, _, _, rfl, rfl, s01.tup h1, atI_nat (j := 1) rfl, g, _, rfl, .inr ⟨s01.tup h2, ?_⟩⟩
        refine ⟨_, rfl, A.t_SIDES, _, _, _, rfl, rfl, T.w_SIDES.at _, at2 (f := fun z => .str (sText z)) (i == 1), sText (i == 1), rfl, (sd _).1, fun H2 c s2 hc => ?_⟩
        refine ⟨.tuple (iD u), .tuple (iD (if (i == 1) then oR else oL)), .tup (s2.tup (s01.tup h2)) (dp_iD _), .tup (.of (by rw [hc, (sd _).2])) (dp_iD _), lay_iD _, lay_iD _, (by show PyData.depthAll (iD _) + 1 ≤ 60; rw [depth_iD]; decide), ?_⟩
        have eq : PyData.eqv (.tuple (iD u)) (.tuple (iD (if (i == 1) then oR else oL))) = decide (u = if (i == 1) then oR else oL) := eqv_iD _ _
        rw [eq]
        refine ⟨_, rfl, ?_⟩
        have s02 := s01.trans s2
        by_cases h : u = if (i == 1) then oR else oL
        · refine if_yes (decide_eq_true h) ?_
          have es : sideV (.text u) = some (i == 1) := by
            unfold sideV
            rw [h]
            match i, hi2 with
            | 0, _ => rfl
            | 1, _ => rfl
          rw [es] at q
          exact ⟨_, rfl, q _ s02⟩
        · refine if_no (decide_eq_false h) ?_
          refine ⟨_, rfl, s1.trans s2, fun j hj z => ?_⟩
          by_cases hji : j = i
          · subst hji
            cases z
            exact h ei
          · exact hb j (by omega) z
      · refine if_no (decide_eq_false fun z => h6 (V.int.inj z)) ?_
        refine if_no rfl ?_
        refine ⟨_, rfl, s1, fun j hj z => h6 (by rw [z]; rfl)⟩
    · rintro σ H1 ⟨v2, rfl, s1, hb⟩
      have es : sideV v = none := by
        cases v with
        | text u =>
          have h0 := hb 0 (by decide)
          have h1 := hb 1 (by decide)
          show (if u = oL then some false else if u = oR then some true else none) = none
          rw [if_neg (fun z => h0 (by rw [z]; rfl)), if_neg (fun z => h1 (by rw [z]; rfl))]
        | _ => rfl
      rw [es] at q
      have lm : (" must be 'left' or 'right'" : Str).length = 26 := by decide +kernel
      refine ⟨_, rfl, _, _, rfl, rfl, sz_le (by omega), true, sideMsg name, rfl, (fun z => by cases z), fun _ => RfE.same q (sm1.trans s1)⟩
end
end Rl
end
section
set_option Elab.async false
set_option linter.all false
set_option maxRecDepth 100000
set_option maxHeartbeats 4000000
/-! RlC6: the methods of Circuit that may refuse. -/
namespace Rl
open PySem PySem.Spec PyProof.Rows L2

def refS : R7251g.Spec.Refusal → Str
  | .resetting => "the circuit is being reset"
  | .full => "the window is full"
  | .empty => "there is nothing to hand on"
  | .nothing => "there is nothing to hand on"
def whyM (m : ML) (s u : Bool) (w : Nat) : Option R7251g.Spec.Refusal := if (m.e s).waits then some .resetting else if m.canSend s u w then none else some .full
def orRef (K : PySem.W.Frag) (A : Adr) (H : Hp) (E : XK) (q : Prop) : Option R7251g.Spec.Refusal → Prop
  | none => q
  | some r => RfE K A H 2 (refS r) E
def spCcheck (K : PySem.W.Frag) (A : Adr) : Sp := fun vs H Q E => ∃ (ρ : Gh) (γ : Cid) (p : Addr) (w : Nat) (L : List ML) (π : Pth) (a : Addr) (m : ML) (s u : Bool), vs = [.ref p, .ref a, .int (bI s), .int (bI u)] ∧ CircAt K A ρ H γ p w L ∧ LinkAt K A ρ H π a m ∧
  orRef K A H E (Q .non H) (whyM m s u w)
def spCsend (K : PySem.W.Frag) (A : Adr) : Sp := fun vs H Q E => ∃ (ρ : Gh) (γ : Cid) (p : Addr) (w : Nat) (L : List ML) (s u : Bool) (pk : Pk) (y : V) (n : Nat), vs = [.ref p, .int (bI s), .int (bI u), y] ∧ Trk ρ H ∧ CircAt K A ρ H γ p w L ∧ 0 < L.length ∧ PkAt K H pk y ∧ CBd n L ∧ n < 14000000 ∧
  orRef K A H E (∀ ρ' H', Stp (cS γ) ρ ρ' H H' → CircAt K A ρ' H' γ p w (sendC L s u pk) → Q .non H') (whyS L s u w)
def spCforward (K : PySem.W.Frag) (A : Adr) : Sp := fun vs H Q E => ∃ (ρ : Gh) (γ : Cid) (p : Addr) (w : Nat) (L : List ML) (n : Nat) (d u : Bool) (k : Nat), vs = [.ref p, .int n, .int (bI d), .int (bI u)] ∧ Trk ρ H ∧ CircAt K A ρ H γ p w L ∧ 1 ≤ n ∧ n < L.length ∧ CBd k L ∧ k < 14000000 ∧
  orRef K A H E (∀ ρ' H', Stp (cS γ) ρ ρ' H H' → CircAt K A ρ' H' γ p w (fwdC L n d u) → Q .non H') (whyC L n d u w)
section
variable {P : Program} {w : World} {K : PySem.W.Frag} {mg : Str → Option Value} {base : Heap} {A : Adr}
theorem ok_C_check_send (T : Txt K mg A) : Ok P w K mg base (L2N.CX P w) 4 A.f_C_check_send p_C_check_send (spCcheck K A) := by
  have Go := ok_out_of_range (P := P) (w := w) (base := base) T
  have Gs := ok_L_can_send (P := P) (w := w) (base := base) T
  refine okX_of T.F_C_check_send sc_C_check_send (fun vs H Q E h => ?_) (fun cdv A' outer s H vs Q E hr h => ?_)
  · obtain ⟨ρ, γ, p, w, L, π, a, m, s, u, rfl, _⟩ := h
    rfl
  · obtain ⟨ρ, γ, p, w', L, π, a, m, s, u, rfl, ⟨x, c⟩, ⟨y, hy⟩, q⟩ := h
    refine ⟨_, pss_cons (ps_expr (fn_callX Go T.g_out_of_range hr (L2N.takes_of rfl rfl rfl rfl) (fun _ _ _ _ h => h) (pa_cons (pe_fld (pe_ix ix_list (pe_fld (pv 1) rfl) (pv 2) (fun _ _ => rfl)) rfl) (pa_cons pe_str pa_nil))))
      (pss_one (ps_expr (fn_callX Go T.g_out_of_range hr (L2N.takes_of rfl rfl rfl rfl) (fun _ _ _ _ h => h) (pa_cons (pe_not (fn_meth Gs T.cl_L T.m_L_can_send hr (pv 1) (pa_cons (pv 2) (pa_cons (pv 3) (pa_cons (pe_fld (pv 0) rfl) pa_nil))))) (pa_cons pe_str pa_nil))))), ?_⟩
    have e := hy.e s
    refine ⟨_, rfl, a, _, y.dx, _, _, rfl, hy.o.h, T.cl_L, T.a_L_ends, linkF_ends, _, rfl, y.ae, _, _, _, rfl, rfl, SqL.of hy.en.h, at2 (f := fun z => .ref (y.aE z)) s, ?_⟩
    refine ⟨y.aE s, _, (y.ea s).dx, _, _, rfl, e.o.h, T.cl_E, T.a_E_waits, endF_waits, (m.e s).waits, _, rfl, fun hw => ?_, fun hw => ?_⟩
    · unfold whyM at q
      rw [hw] at q
      refine ⟨_, rfl, a, y.dx, _, rfl, hy.o.h, linkF_no (by decide +kernel), _, rfl, _, rfl, _, rfl, p, _, x.dx, _, _, rfl, c.o, T.cl_C, T.a_C_window, circF_window, ?_⟩
      refine ⟨ρ, π, a, m, s, u, w', rfl, ⟨y, hy⟩, _, rfl, !m.canSend s u w', _, rfl, fun hc => ?_, fun hc => ?_⟩
      · have hc : m.canSend s u w' = true := by cases h : m.canSend s u w' <;> rw [h] at hc <;> first | rfl | cases hc
        rw [hc] at q
        exact q
      · have hc : m.canSend s u w' = false := by cases h : m.canSend s u w' <;> rw [h] at hc <;> first | rfl | cases hc
        rw [hc] at q
        exact q
    · unfold whyM at q
      rw [hw] at q
      exact q
theorem ok_C_send (T : Txt K mg A) : Ok P w K mg base (L2N.CX P w) 5 A.f_C_send p_C_send (spCsend K A) := by
  have Gt := ok_C_terminal (P := P) (w := w) (base := base) T
  have Gc := ok_C_check_send (P := P) (w := w) (base := base) T
  have Gs := ok_L_send (P := P) (w := w) (base := base) T
  refine okX_of T.F_C_send sc_C_send (fun vs H Q E h => ?_) (fun cdv A' outer s H vs Q E hr h => ?_)
  · obtain ⟨ρ, γ, p, w, L, s, u, pk, y, n, rfl, _⟩ := h
    rfl
  · obtain ⟨ρ, γ, p, w', L, s, u, pk, y, n, rfl, ht, ⟨x, c⟩, h0, hpk, hbd, hn, q⟩ := h
    refine ⟨_, pss_cons (ps_set (i := 4) sc_C_send.nd rfl (Or.inl rfl) (fn_meth Gt T.cl_C T.m_C_terminal hr (pv 0) (pa_cons (pv 1) pa_nil)))
      (pss_cons (ps_expr (fn_methX Gc T.cl_C T.m_C_check_send hr (L2N.takes_of rfl rfl rfl rfl) (fun _ _ _ _ h => h) (pv 0) (pa_cons (pv 4) (pa_cons (pv 1) (pa_cons (pv 2) pa_nil)))))
      (pss_one (ps_expr (fn_meth Gs T.cl_L T.m_L_send hr (pv 4) (pa_cons (pv 1) (pa_cons (pv 2) (pa_cons (pv 3) pa_nil))))))), ?_⟩
    have hs := term_lt (c := L) s h0
    obtain ⟨a, ha, ⟨ya, hya⟩, _⟩ := c.at hs
    refine ⟨_, rfl, p, x.dx, _, rfl, c.o, circF_no (by decide +kernel), _, rfl, ρ, γ, p, w', L, x, s, a, rfl, c, ha, ?_⟩
    refine ⟨_, rfl, p, x.dx, _, rfl, c.o, circF_no (by decide +kernel), _, rfl, _, rfl, _, rfl, ρ, γ, p, w', L, (γ.1, γ.2, termOf L s), a, at_ L (termOf L s), s, u, rfl, ⟨x, c⟩, ⟨ya, hya⟩, ?_⟩
    have ew : whyM (at_ L (termOf L s)) s u w' = whyS L s u w' := rfl
    rw [ew]
    cases hw : whyS L s u w' with
    | some r =>
      rw [hw] at q
      exact q
    | none =>
      rw [hw] at q
      have q : ∀ ρ' H', Stp (cS γ) ρ ρ' H H' → CircAt K A ρ' H' γ p w' (sendC L s u pk) → Q .non H' := q
      refine ⟨_, rfl, a, ya.dx, _, rfl, hya.o.h, linkF_no (by decide +kernel), _, rfl, _, rfl, _, rfl, ρ, (γ.1, γ.2, termOf L s), a, at_ L (termOf L s), s, u, pk, y, n, rfl, ht, ⟨ya, hya⟩, hpk, hbd.at hs, by omega, fun H2 s2 h2 => ?_⟩
      exact q ρ H2 (s2.mono lS_cS) ⟨x, c.set s2 ha h2⟩
theorem ok_C_forward (T : Txt K mg A) : Ok P w K mg base (L2N.CX P w) 5 A.f_C_forward p_C_forward (spCforward K A) := by
  have Gl := ok_C_links_at (P := P) (w := w) (base := base) T
  have Go := ok_out_of_range (P := P) (w := w) (base := base) T
  have Gc := ok_C_check_send (P := P) (w := w) (base := base) T
  have Gp := ok_C_pass_on (P := P) (w := w) (base := base) T
  refine okX_of T.F_C_forward sc_C_forward (fun vs H Q E h => ?_) (fun cdv A' outer s H vs Q E hr h => ?_)
  · obtain ⟨ρ, γ, p, w, L, n, d, u, k, rfl, _⟩ := h
    rfl
  · obtain ⟨ρ, γ, p, w', L, n, d, u, k, rfl, ht, ⟨x, c⟩, h1, h2, hbd, hk, q⟩ := h
    refine ⟨_, pss_cons (ps_asg (fn_meth Gl T.cl_C T.m_C_links_at hr (pv 0) (pa_cons (pv 1) (pa_cons (pv 2) pa_nil))) (pg_tup rfl (pgs_cons (pg_name (i := 4) sc_C_forward.nd rfl (Or.inl rfl)) (pgs_cons (pg_name (i := 5) sc_C_forward.nd rfl (Or.inl rfl)) pgs_nil))))
      (pss_cons (ps_expr (fn_callX Go T.g_out_of_range hr (L2N.takes_of rfl rfl rfl rfl) (fun _ _ _ _ h => h) (pa_cons (pe_cmpR op_eq (pe_lenOf T.b_len (pe_ix ix_list (pe_fld (pe_ix ix_list (pe_fld (pv 4) rfl) (pv 2) (fun _ _ => rfl)) rfl) (pv 3) (fun _ _ => rfl))) pe_int (nomark _)) (pa_cons pe_str pa_nil))))
      (pss_cons (ps_expr (fn_methX Gc T.cl_C T.m_C_check_send hr (L2N.takes_of rfl rfl rfl rfl) (fun _ _ _ _ h => h) (pv 0) (pa_cons (pv 5) (pa_cons (pe_op op_sub pe_int (pv 2)) (pa_cons (pv 3) pa_nil)))))
      (pss_one (ps_expr (fn_meth Gp T.cl_C T.m_C_pass_on hr (pv 0) (pa_cons (pv 1) (pa_cons (pv 2) (pa_cons (pv 3) pa_nil)))))))), ?_⟩
    have hs := src_lt d h1 h2
    have hg := tgt_lt d h1 h2
    obtain ⟨a, ha, _, _⟩ := c.at hs
    obtain ⟨b, hb, _, _⟩ := c.at hg
    refine ⟨_, rfl, p, x.dx, _, rfl, c.o, circF_no (by decide +kernel), _, rfl, _, rfl, ρ, γ, p, w', L, x, n, d, a, b, rfl, c, h1, h2, ha, hb, fun t htt => ?_⟩
    have sm : Same H (upd H t (.tup [.ref a, .ref b])) := Same.new htt
    have s1 : Stp (cS γ) ρ ρ H _ := Stp.same ht sm
    have c1 := c.same ht sm
    obtain ⟨ya, hya⟩ := c1.k _ a _ ha (at_get hs)
    have hlb := c1.k _ b _ hb (at_get hg)
    refine ⟨t, _, rfl, .of upd_same, rfl, _, _, rfl, _, _, rfl, rfl, ?_⟩
    have e := hya.e d
    obtain ⟨vs, hv, cin⟩ := e.i.b u
    refine ⟨_, rfl, a, _, ya.dx, _, _, rfl, hya.o.h, T.cl_L, T.a_L_ends, linkF_ends, _, rfl, ya.ae, _, _, _, rfl, rfl, SqL.of hya.en.h, at2 (f := fun z => .ref (ya.aE z)) d, ?_⟩
    refine ⟨ya.aE d, _, (ya.ea d).dx, _, _, rfl, e.o.h, T.cl_E, T.a_E_inboxes, endF_inboxes, _, rfl, (ya.ea d).ai, _, _, _, rfl, rfl, SqL.of e.i.l.h, at2 (f := fun z => .ref ((ya.ea d).aI z)) u, ?_⟩
    refine ⟨_, _, rfl, .inl (SqL.of cin.h), rfl, ?_⟩
    rw [hasN (α := Unit) hv]
    refine ⟨_, _, rfl, fun hin => ?_, fun hin => ?_⟩
    · have hne : ((at_ L (srcOf n d)).e d).inn u ≠ [] := fun z => by rw [z] at hin; cases hin
      have ew : whyC L n d u w' = whyM (at_ L (tgtOf n d)) (!d) u w' := by
        unfold whyC
        rw [if_neg hne]; rfl
      rw [ew] at q
      refine ⟨_, rfl, p, x.dx, _, rfl, c1.o, circF_no (by decide +kernel), _, rfl, _, rfl, _, _, rfl, rfl, _, rfl, ρ, γ, p, w', L, (γ.1, γ.2, tgtOf n d), b, at_ L (tgtOf n d), !d, u, by cases d <;> rfl, ⟨x, c1⟩, hlb, ?_⟩
      cases hw : whyM (at_ L (tgtOf n d)) (!d) u w' with
      | some r =>
        rw [hw] at q
        exact RfE.same q sm
      | none =>
        rw [hw] at q
        have q : ∀ ρ' H', Stp (cS γ) ρ ρ' H H' → CircAt K A ρ' H' γ p w' (fwdC L n d u) → Q .non H' := q
        refine ⟨_, rfl, p, x.dx, _, rfl, c1.o, circF_no (by decide +kernel), _, rfl, _, rfl, _, rfl, ρ, γ, p, w', L, n, d, u, k, rfl, s1.trk, ⟨x, c1⟩, h1, h2, hbd, hk, hne, fun ρ2 H2 s2 c2 => ?_⟩
        exact q ρ2 H2 (s1.trans s2) c2
    · have hnil : ((at_ L (srcOf n d)).e d).inn u = [] := List.isEmpty_iff.mp hin
      have ew : whyC L n d u w' = some .empty := by
        unfold whyC
        rw [if_pos hnil]
      rw [ew] at q
      exact RfE.same q sm
end
end Rl
end
section
set_option Elab.async false
set_option linter.all false
set_option maxRecDepth 100000
set_option maxHeartbeats 4000000
/-! RlT1: what is told: how an expression gives a value; packets, items, steps. -/
namespace Rl
open PySem PySem.Spec PyProof.Rows L2

theorem asg_in {te : TE} {g : TG} {D : Ends} {σ : L2.St} {H : Hp} (h : te σ H fun v H1 => g v σ H1 D.nx) : tAsg te g D σ H := h
theorem drop_in {te : TE} {D : Ends} {σ : L2.St} {H : Hp} (h : te σ H fun _ H1 => D.nx σ H1) : tDrop te D σ H := h
theorem ret_in {te : TE} {D : Ends} {σ : L2.St} {H : Hp} (h : te σ H D.rt) : tRet te D σ H := h
theorem bm_in {K : PySem.W.Frag} {Ty : String} {r : V → List V → Hp → VK → Prop} {to : TE} {t : TA} {σ : L2.St} {H : Hp} {Q : VK} (h : to σ H fun x H1 => tyV K Ty x H1 ∧ t σ H1 fun xs H2 => r x xs H2 Q) : tBM K Ty r to t σ H Q := h
theorem cons_in {ta : TE} {t : TA} {σ : L2.St} {H : Hp} {Q : List V → Hp → Prop} (h : ta σ H fun x H1 => t σ H1 fun xs H2 => Q (x :: xs) H2) : tCons ta t σ H Q := h
/-! ### names as octets -/
def oN (z : Str) : List UInt8 := z.cps.toList.map fun c => UInt8.ofNat c
theorem cV_oN {z : Str} (h : (z.cps.toList.all fun c => decide (c < 256)) = true) : cV z = oV (oN z) := by
  unfold cV oV oN
  rw [List.map_map]
  refine List.map_congr_left fun c hc => ?_
  have hlt : c < 256 := of_decide_eq_true (List.all_eq_true.mp h c hc)
  show V.int (c : Nat) = V.int ((UInt8.ofNat c).toNat : Nat)
  rw [UInt8.toNat_ofNat']
  rw [Nat.mod_eq_of_lt hlt]
def okN (z : Str) : Bool := (z.cps.toList.all fun c => decide (c < 256)) && decide (z.length ≤ 1000)
theorem okN_c {z : Str} (h : okN z = true) : cV z = oV (oN z) := cV_oN (Bool.and_eq_true_iff.mp h).1
theorem okN_l {z : Str} (h : okN z = true) : z.length ≤ 1000 := of_decide_eq_true (Bool.and_eq_true_iff.mp h).2

/-! ### an expression that gives a value, on the heaps that keep H -/
def GV (K : PySem.W.Frag) (σ : L2.St) (H : Hp) (te : TE) (v : RWire.Value) : Prop := ∀ H1, Same H H1 → ∀ Q : VK, (∀ x H', Same H1 H' → VR K H' v x → Q x H') → te σ H1 Q
def GA (K : PySem.W.Frag) (σ : L2.St) (H : Hp) (t : TA) (es : List (RWire.Text × RWire.Value)) : Prop := ∀ H1, Same H H1 → ∀ Q : List V → Hp → Prop, (∀ xs H', Same H1 H' → PrAll K H' es xs → Q xs H') → t σ H1 Q
def GR (σ : L2.St) (H : Hp) (te : TE) (x : V) : Prop := ∀ H1, Same H H1 → ∀ Q : VK, Q x H1 → te σ H1 Q
def GLs (K : PySem.W.Frag) (σ : L2.St) (H : Hp) (te : TE) (l : List RWire.Value) : Prop := ∀ H1, Same H H1 → ∀ Q : VK, (∀ D ys H', Same H1 H' → H' D = some (.lst ys) → VRs K H' l ys → Q (.ref D) H') → te σ H1 Q
def GP (K : PySem.W.Frag) (σ : L2.St) (H : Hp) (te : TE) (es : List (RWire.Text × RWire.Value)) : Prop := ∀ H1, Same H H1 → ∀ Q : VK, (∀ D ys H', Same H1 H' → H1 D = none → H' D = some (.lst ys) → PrAll K H' es ys → Q (.ref D) H') → te σ H1 Q
section
variable {K : PySem.W.Frag} {σ : L2.St} {H H' : Hp} {te tl : TE} {t : TA} {v : RWire.Value} {es fs : List (RWire.Text × RWire.Value)} {l : List RWire.Value}
theorem GV.same (g : GV K σ H te v) (s : Same H H') : GV K σ H' te v := fun H1 s1 Q h => g H1 (s.trans s1) Q h
theorem PrAll.tst (s : TSt K H H') {xs : List V} (h : PrAll K H es xs) : PrAll K H' es xs := ⟨h.1, fun i e x h1 h2 => by
  obtain ⟨t, z, y, e1, q1, q2, q3, q4⟩ := h.2 i e x h1 h2
  exact ⟨t, z, y, e1, s _ _ q1, q2, q3, VR.tst s _ _ q4⟩⟩
theorem PrAll.nil : PrAll K H [] [] := ⟨rfl, fun i e x h => by simp at h⟩
theorem PrAll.app {xs ys : List V} (h : PrAll K H es xs) (k : PrAll K H fs ys) : PrAll K H (es ++ fs) (xs ++ ys) := by
  refine ⟨by rw [List.length_append, List.length_append, h.1, k.1], fun i e x h1 h2 => ?_⟩
  by_cases hi : i < es.length
  · rw [List.getElem?_append_left hi] at h1
    rw [List.getElem?_append_left (by rw [h.1]; exact hi)] at h2
    exact h.2 i e x h1 h2
  · rw [List.getElem?_append_right (by omega)] at h1
    rw [List.getElem?_append_right (by rw [h.1]; omega), h.1] at h2
    exact k.2 _ e x h1 h2
theorem ga_nil : GA K σ H tNil [] := fun H1 s1 Q h => h [] H1 (Same.refl _) .nil
theorem ga_cons {z : Str} (hz : okN z = true) (g : GV K σ H te v) (k : GA K σ H t es) : GA K σ H (tCons (tTup (tCons (tC (.str z)) (tCons te tNil))) t) ((oN z, v) :: es) := by
  intro H1 s1 Q h
  refine g H1 s1 _ fun y H2 s2 hy => ?_
  refine ⟨two_le, fun p hp => ?_⟩
  have s3 : Same H2 (upd H2 p (.tup [.str z, y])) := Same.new hp
  refine k _ ((s1.trans s2).trans s3) _ fun xs H4 s4 hxs => ?_
  refine h _ _ ((s2.trans s3).trans s4) ?_
  have e : PrAll K H4 [(oN z, v)] [.ref p] := ⟨rfl, fun i e x h1 h2 => by
    match i, h1, h2 with
    | 0, h1, h2 =>
      cases h1
      cases h2
      exact ⟨p, z, y, rfl, .of (s4 _ _ upd_same), okN_l hz, okN_c hz, s4.vr (s3.vr hy)⟩⟩
  exact PrAll.app e hxs
theorem gp_lst (g : GA K σ H t es) (hn : es.length ≤ 100) : GP K σ H (tLst t) es := by
  intro H1 s1 Q h
  refine g H1 s1 _ fun xs H2 s2 hxs => ?_
  refine ⟨sz_le (by have := hxs.1; omega), fun p hp => ?_⟩
  have s3 : Same H2 (upd H2 p (.lst xs)) := Same.new hp
  refine h p xs _ (s2.trans s3) ?_ upd_same (hxs.tst s3.tst)
  cases e : H1 p with
  | none => rfl
  | some o => rw [s2 _ _ e] at hp; cases hp
/-- pairs + [..] -/
theorem gp_cat {σ : L2.St} (g1 : GP K σ H te es) (g2 : GP K σ H tl fs) (hn : es.length + fs.length ≤ 100) : GP K σ H (tOp rCat te tl) (es ++ fs) := by
  intro H1 s1 Q h
  refine g1 H1 s1 _ fun D xs H2 s2 n2 hD hx => ?_
  refine g2 H2 (s1.trans s2) _ fun D' ys H3 s3 n3 hD' hy => ?_
  refine ⟨D, D', xs, ys, rfl, rfl, s3 _ _ hD, hD', sz_le (by have := hx.1; have := hy.1; omega), fun p hp => ?_⟩
  have s4 : Same H3 (upd H3 p (.lst (xs ++ ys))) := Same.new hp
  refine h p _ _ ((s2.trans s3).trans s4) ?_ upd_same ((PrAll.app (hx.tst s3.tst) hy).tst s4.tst)
  cases e : H1 p with
  | none => rfl
  | some o => rw [s3 _ _ (s2 _ _ e)] at hp; cases hp
theorem gv_record (g : GP K σ H te es) (hn : es.length ≤ 100) : GV K σ H (tCall (spRecord K) [] E0 (tCons te tNil)) (.record es) := by
  intro H1 s1 Q h
  refine g H1 s1 _ fun D xs H2 s2 n2 hD hx => ?_
  exact ⟨D, xs, es, rfl, .of hD, hx, hn, fun H3 x s3 h3 => h x H3 (s2.trans s3) h3⟩
/-- record(pairs + [..]) -/
theorem gv_reccat {i : Nat} {D : Addr} {xs : List V} (hv : σ[i]? = some (some (.ref D))) (hD : H D = some (.lst xs)) (hx : PrAll K H es xs) (g2 : GP K σ H tl fs) (hn : es.length + fs.length ≤ 100) : GV K σ H (tCall (spRecord K) [] E0 (tCons (tOp rCat (tVar i) tl) tNil)) (.record (es ++ fs)) := by
  intro H1 s1 Q h
  refine ⟨_, hv, ?_⟩
  refine g2 H1 s1 _ fun D' ys H3 s3 n3 hD' hy => ?_
  refine ⟨D, D', xs, ys, rfl, rfl, s3 _ _ (s1 _ _ hD), hD', sz_le (by have := hx.1; have := hy.1; omega), fun p hp => ?_⟩
  have s4 : Same H3 (upd H3 p (.lst (xs ++ ys))) := Same.new hp
  exact ⟨p, _, es ++ fs, rfl, .of upd_same, (PrAll.app (hx.tst (s1.trans s3).tst) hy).tst s4.tst, by rw [List.length_append]; exact hn, fun H5 x s5 h5 => h x H5 ((s3.trans s4).trans s5) h5⟩
/-- [f(x) for x in l], the list made on the way -/
theorem gls_lc2 {k : Nat} {vs : List Nat} (hn : l.length ≤ 16000000) (hw : ∀ y : V, wipe ((wipe σ vs).set k (some y)) vs = wipe σ vs)
    (htl : ∀ H1, Same H H1 → ∀ Q : VK, (∀ a ys H', Same H1 H' → H' a = some (.lst ys) → l.length = ys.length → (∀ (i : Nat) (y : V) (v : RWire.Value), ys[i]? = some y → l[i]? = some v → GV K ((wipe σ vs).set k (some y)) H' te v) → Q (.ref a) H') → tl σ H1 Q) :
    GLs K σ H (tLc (iList K tl) (gName k) tYes te vs) l := by
  intro H1 s1 Q h
  refine htl H1 s1 _ fun a ys H0 s0 ha hl hel => ?_
  refine ⟨a, rfl, ⟨_, .of ha⟩, fun D hD => ?_⟩
  refine lc_tst (K := K) (walk_list (xs := ys)) (fun i x H => ∃ v, l[i]? = some v ∧ VR K H v x) (fun i x H1 H2 t ⟨v, e, r⟩ => ⟨v, e, VR.tst t _ _ r⟩) hD (by rw [← hl]; exact sz_le hn) (fun H2 s2 => s2.seq (.of ha)) ?_ ?_
  · rintro i x H2 H3 Q2 hi s2 ⟨rfl, hx⟩ q
    refine ⟨hw x, ?_⟩
    have hi' : i < l.length := by rw [hl]; exact hi
    exact hel i x _ hx (List.getElem?_eq_getElem hi') _ s2 _ fun y H4 s4 r4 => q y H4 s4 ⟨_, List.getElem?_eq_getElem hi', r4⟩
  · intro H2 zs s2 hz hl2 hR
    refine h D zs H2 (s0.trans s2) hz (VRs.mk (by rw [hl2, hl]) fun i v x h1 h2 => ?_)
    obtain ⟨v', e, r⟩ := hR i x h2
    rw [h1] at e
    cases e
    exact r
theorem gv_listed (g : GLs K σ H te l) : GV K σ H (tCall (spListed K) [] E0 (tCons te tNil)) (.list l) := by
  intro H1 s1 Q h
  refine g H1 s1 _ fun D xs H2 s2 hD hx => ?_
  exact ⟨D, xs, l, rfl, .of hD, hx, fun H3 x s3 h3 => h x H3 (s2.trans s3) h3⟩
theorem gv_integer {i : Int} (g : GR σ H te (.int i)) : GV K σ H (tCall (spInteger K) [] E0 (tCons te tNil)) (.int i) := fun H1 s1 Q h => g H1 s1 _ ⟨i, rfl, fun H3 x s3 h3 => h x H3 s3 h3⟩
theorem gv_truth {b : Bool} (g : GR σ H te (.bl b)) : GV K σ H (tCall (spTruth K) [] E0 (tCons te tNil)) (.bool b) := fun H1 s1 Q h => g H1 s1 _ ⟨b, rfl, fun H3 x s3 h3 => h x H3 s3 h3⟩
theorem gv_text {z : Str} (hz : okN z = true) (g : GR σ H te (.str z)) : GV K σ H (tCall (spText K) [] E0 (tCons te tNil)) (.text (oN z)) := fun H1 s1 Q h => g H1 s1 _ ⟨z, oN z, rfl, okN_l hz, okN_c hz, fun H3 x s3 h3 => h x H3 s3 h3⟩
theorem gv_of (x : V) (hx : VR K H v x) (g : GR σ H te x) : GV K σ H te v := fun H1 s1 Q h => g H1 s1 _ (h x H1 (Same.refl _) (s1.vr hx))
theorem gr_c {x : V} : GR σ H (tC x) x := fun _ _ _ q => q
theorem gr_var {i : Nat} {x : V} (h : σ[i]? = some (some x)) : GR σ H (tVar i) x := fun _ _ _ q => ⟨x, h, q⟩
theorem gr_fld {a C dx : Addr} {fs : List (Str × V)} {f : Str} {x : V} (g : GR σ H te (.ref a)) (h : H a = some (.ins C dx fs)) (c : Cls K C) (n : NoAttr K C f) (e : fs.lookup f = some x) : GR σ H (tFld K te f) x := fun H1 s1 Q q => g H1 s1 _ ⟨a, C, dx, fs, x, rfl, s1 _ _ h, c, n, e, q⟩
theorem gr_ixL {a : Addr} {xs : List V} {i : Int} {x : V} {ti : TE} (g : GR σ H te (.ref a)) (k : GR σ H ti (.int i)) (h : SqL K H a xs) (e : atI xs i = some x) : GR σ H (tOp (rIxL K) te ti) x := fun H1 s1 Q q => g H1 s1 _ (k H1 s1 _ ⟨a, xs, i, x, rfl, rfl, s1.seq h, e, q⟩)
theorem gr_ixT {a : Addr} {xs : List V} {i : Int} {x : V} {ti : TE} (g : GR σ H te (.ref a)) (k : GR σ H ti (.int i)) (h : SqT K H a xs) (e : atI xs i = some x) : GR σ H (tOp (rIxT K) te ti) x := fun H1 s1 Q q => g H1 s1 _ (k H1 s1 _ ⟨a, xs, i, x, rfl, rfl, s1.tup h, e, q⟩)
/-- [f(x) for x in l] -/
theorem gls_lc {a : Addr} {ys : List V} {k : Nat} {vs : List Nat} (g : GR σ H tl (.ref a)) (hq : SqL K H a ys) (hl : l.length = ys.length) (hn : l.length ≤ 16000000) (hw : ∀ y : V, wipe ((wipe σ vs).set k (some y)) vs = wipe σ vs)
    (hel : ∀ (i : Nat) (y : V) (v : RWire.Value), ys[i]? = some y → l[i]? = some v → GV K ((wipe σ vs).set k (some y)) H te v) : GLs K σ H (tLc (iList K tl) (gName k) tYes te vs) l := by
  intro H1 s1 Q h
  refine g H1 s1 _ ⟨a, rfl, ⟨_, s1.seq hq⟩, fun D hD => ?_⟩
  refine lc_tst (K := K) (walk_list (xs := ys)) (fun i x H => ∃ v, l[i]? = some v ∧ VR K H v x) (fun i x H1 H2 t ⟨v, e, r⟩ => ⟨v, e, VR.tst t _ _ r⟩) hD (by rw [← hl]; exact sz_le hn) (fun H2 s2 => (s1.trans s2).seq hq) ?_ ?_
  · rintro i x H2 H3 Q2 hi s2 ⟨rfl, hx⟩ q
    refine ⟨hw x, ?_⟩
    have hi' : i < l.length := by rw [hl]; exact hi
    exact hel i x _ hx (List.getElem?_eq_getElem hi') _ (s1.trans s2) _ fun y H4 s4 r4 => q y H4 s4 ⟨_, List.getElem?_eq_getElem hi', r4⟩
  · intro H2 zs s2 hz hl2 hR
    refine h D zs H2 s2 hz (VRs.mk (by rw [hl2, hl]) fun i v x h1 h2 => ?_)
    obtain ⟨v', e, r⟩ := hR i x h2
    rw [h1] at e
    cases e
    exact r
end

/-! ### what is told -/
def vPk (p : Pk) : RWire.Value := .record [(oN "value", .int p.value), (oN "more", .bool p.more)]
def vPko : Option Pk → RWire.Value
  | some p => vPk p
  | none => .null
def vPks (l : List Pk) : RWire.Value := .list (l.map vPk)
def vItem : Itm → RWire.Value
  | .data u p => .record [(oN "kind", .text (oN (nKind u))), (oN "value", .int p.value), (oN "more", .bool p.more)]
  | i => .record [(oN "kind", .text (oN (kindS i))), (oN "value", .null), (oN "more", .null)]
def vStep (v : RWire.Value) (b : Bool) : RWire.Value := .record [(oN "value", v), (oN "done", .bool b)]
def PkoAt (K : PySem.W.Frag) (H : Hp) : Option Pk → V → Prop
  | some p, y => PkAt K H p y
  | none, y => y = .non
def spToldPk (K : PySem.W.Frag) : Sp := fun vs H Q _ => ∃ (y : V) (o : Option Pk), vs = [y] ∧ PkoAt K H o y ∧ ∀ H' x, Same H H' → VR K H' (vPko o) x → Q x H'
def spToldPks (K : PySem.W.Frag) : Sp := fun vs H Q _ => ∃ (a : Addr) (ys : List V) (l : List Pk), vs = [.ref a] ∧ SqL K H a ys ∧ PkAll K H l ys ∧ l.length ≤ 16000000 ∧ ∀ H' x, Same H H' → VR K H' (vPks l) x → Q x H'
def spToldItem (K : PySem.W.Frag) : Sp := fun vs H Q _ => ∃ (y : V) (i : Itm), vs = [y] ∧ ItAt K H i y ∧ ∀ H' x, Same H H' → VR K H' (vItem i) x → Q x H'
def spToldStep (K : PySem.W.Frag) : Sp := fun vs H Q _ => ∃ (y : V) (v : RWire.Value) (b : Bool), vs = [y, .bl b] ∧ VR K H v y ∧ ∀ H' x, Same H H' → VR K H' (vStep v b) x → Q x H'
theorem kind_ok (i : Itm) : okN (kindS i) = true := by
  cases i with
  | data u p =>
    show okN (nKind u) = true
    cases u <;> decide +kernel
  | credit u =>
    show okN (cKind u) = true
    cases u <;> decide +kernel
  | reset => decide +kernel
  | confirm => decide +kernel
section
variable {P : Program} {w : World} {K : PySem.W.Frag} {mg : Str → Option Value} {base : Heap} {A : Adr}
theorem ok_told_packet (T : Txt K mg A) : Ok P w K mg base CX0 3 A.f_told_packet p_told_packet (spToldPk K) := by
  have Gi := ok_integer (P := P) (w := w) (base := base) T
  have Gt := ok_truth (P := P) (w := w) (base := base) T
  have Gr := ok_record (P := P) (w := w) (base := base) T
  refine ok_of T.F_told_packet sc_told_packet (fun vs H Q E h => ?_) (fun cdv A' outer s H vs Q E hr h => ?_)
  · obtain ⟨y, o, rfl, _⟩ := h
    rfl
  · obtain ⟨y, o, rfl, hp, q⟩ := h
    refine ⟨_, pss_cons (ps_if (pt_cmpR op_isN (pv 0) pe_non (nomark _)) (pss_one (ps_ret (pe_glob (v := .ref A.t_NULL) rfl T.v_NULL rfl))) pss_nil)
      (pss_one (ps_ret (fn_call Gr T.g_record hr (pa_cons (pe_lst (pa_cons (pe_tup (pa_cons pe_str (pa_cons (fn_call Gi T.g_integer hr (pa_cons (pe_ix ix_tup (pv 0) pe_int (fun _ _ => rfl)) pa_nil)) pa_nil)))
        (pa_cons (pe_tup (pa_cons pe_str (pa_cons (fn_call Gt T.g_truth hr (pa_cons (pe_ix ix_tup (pv 0) pe_int (fun _ _ => rfl)) pa_nil)) pa_nil))) pa_nil))) pa_nil)))), ?_⟩
    refine ⟨_, rfl, rfl, _, rfl, ?_⟩
    cases o with
    | none =>
      have hp : y = .non := hp
      subst hp
      refine if_yes rfl ?_
      refine q _ _ (Same.refl _) ?_
      show VR K H .null (.ref A.t_NULL)
      unfold VR
      exact ⟨_, rfl, T.w_NULL.at _⟩
    | some p =>
      obtain ⟨a, rfl, ha⟩ := (show PkAt K H p y from hp)
      refine if_no rfl ?_
      have h0 : GR (start n_told_packet [.ref a]) H (tOp (rIxT K) (tVar 0) (tC (.int 0))) (.int p.value) := gr_ixT (gr_var rfl) gr_c ha (atI_nat (j := 0) rfl)
      have h1 : GR (start n_told_packet [.ref a]) H (tOp (rIxT K) (tVar 0) (tC (.int 1))) (.bl p.more) := gr_ixT (gr_var rfl) gr_c ha (atI_nat (j := 1) rfl)
      exact gv_record (gp_lst (ga_cons (by decide +kernel) (gv_integer h0) (ga_cons (by decide +kernel) (gv_truth h1) ga_nil)) (Nat.le_of_ble_eq_true rfl)) (Nat.le_of_ble_eq_true rfl) H (Same.refl _) _ fun x H' s h => q H' x s h
theorem ok_told_packets (T : Txt K mg A) : Ok P w K mg base CX0 4 A.f_told_packets p_told_packets (spToldPks K) := by
  have Gp := ok_told_packet (P := P) (w := w) (base := base) T
  have Gl := ok_listed (P := P) (w := w) (base := base) T
  refine ok_of T.F_told_packets sc_told_packets (fun vs H Q E h => ?_) (fun cdv A' outer s H vs Q E hr h => ?_)
  · obtain ⟨a, ys, l, rfl, _⟩ := h
    rfl
  · obtain ⟨a, ys, l, rfl, ha, hp, hl, q⟩ := h
    refine ⟨_, pss_one (ps_ret (fn_call Gl T.g_listed hr (pa_cons (pe_lc (own := [("packet", 1)]) (g := gName 1) (by rfl) sc_told_packets.nd (pi_list (pv 0)) (blkOk_by (own := [("packet", 1)]) (N := n_told_packets) (sc := defScope s_told_packets) (by decide +kernel)) (fun _ _ _ _ _ => pg_name (i := 1) sc_told_packets.nd rfl (Or.inl rfl)) (fun _ _ _ _ _ => pts_nil)
        (fun _ _ _ _ _ => fn_call Gp T.g_told_packet hr (pa_cons (pv 1) pa_nil))) pa_nil))), ?_⟩
    have len := hp.length
    refine gv_listed (gls_lc (l := l.map vPk) (gr_var rfl) ha (by rw [List.length_map]; exact len) (by rw [List.length_map]; exact hl) (fun _ => rfl) ?_) H (Same.refl _) _ fun x H' s h => q H' x s h
    intro i y v hy hv
    rw [List.getElem?_map] at hv
    obtain ⟨p, hpi, hpk⟩ := hp.getR hy
    rw [hpi] at hv
    cases hv
    intro H1 s1 Q1 h1
    exact ⟨_, rfl, y, some p, rfl, PkAt.tst s1.tst hpk, fun H2 x s2 h2 => h1 x H2 s2 h2⟩
theorem ok_told_item (T : Txt K mg A) : Ok P w K mg base CX0 3 A.f_told_item p_told_item (spToldItem K) := by
  have Gi := ok_integer (P := P) (w := w) (base := base) T
  have Gt := ok_truth (P := P) (w := w) (base := base) T
  have Gx := ok_text (P := P) (w := w) (base := base) T
  have Gr := ok_record (P := P) (w := w) (base := base) T
  refine ok_of T.F_told_item sc_told_item (fun vs H Q E h => ?_) (fun cdv A' outer s H vs Q E hr h => ?_)
  · obtain ⟨y, i, rfl, _⟩ := h
    rfl
  · obtain ⟨y, i, rfl, ⟨a, z, rfl, ha, hz⟩, q⟩ := h
    refine ⟨_, pss_cons (ps_asg (pv 0) (pg_tup rfl (pgs_cons (pg_name (i := 1) sc_told_item.nd rfl (Or.inl rfl)) (pgs_cons (pg_name (i := 2) sc_told_item.nd rfl (Or.inl rfl)) pgs_nil))))
      (pss_cons (ps_if (pt_cmpR op_isN (pv 2) pe_non (nomark _))
        (pss_one (ps_ret (fn_call Gr T.g_record hr (pa_cons (pe_lst (pa_cons (pe_tup (pa_cons pe_str (pa_cons (fn_call Gx T.g_text hr (pa_cons (pv 1) pa_nil)) pa_nil)))
          (pa_cons (pe_tup (pa_cons pe_str (pa_cons (pe_glob (v := .ref A.t_NULL) rfl T.v_NULL rfl) pa_nil))) (pa_cons (pe_tup (pa_cons pe_str (pa_cons (pe_glob (v := .ref A.t_NULL) rfl T.v_NULL rfl) pa_nil))) pa_nil)))) pa_nil)))) pss_nil)
      (pss_one (ps_ret (fn_call Gr T.g_record hr (pa_cons (pe_lst (pa_cons (pe_tup (pa_cons pe_str (pa_cons (fn_call Gx T.g_text hr (pa_cons (pv 1) pa_nil)) pa_nil)))
        (pa_cons (pe_tup (pa_cons pe_str (pa_cons (fn_call Gi T.g_integer hr (pa_cons (pe_ix ix_tup (pv 2) pe_int (fun _ _ => rfl)) pa_nil)) pa_nil)))
        (pa_cons (pe_tup (pa_cons pe_str (pa_cons (fn_call Gt T.g_truth hr (pa_cons (pe_ix ix_tup (pv 2) pe_int (fun _ _ => rfl)) pa_nil)) pa_nil))) pa_nil)))) pa_nil))))), ?_⟩
    refine ⟨_, rfl, a, _, rfl, ha, rfl, _, _, rfl, _, _, rfl, rfl, ?_⟩
    refine ⟨_, rfl, rfl, _, rfl, ?_⟩
    have hk : GV K [some (.ref a), some (.str (kindS i)), some z] H (tCall (spText K) [] E0 (tCons (tVar 1) tNil)) (.text (oN (kindS i))) := gv_text (kind_ok i) (gr_var rfl)
    by_cases hd : ∃ u p, i = .data u p
    · obtain ⟨u, p, rfl⟩ := hd
      obtain ⟨b, rfl, hb⟩ := (show PkAt K H p z from hz)
      refine if_no rfl ?_
      have h0 : GR [some (.ref a), some (.str (kindS (.data u p))), some (.ref b)] H (tOp (rIxT K) (tVar 2) (tC (.int 0))) (.int p.value) := gr_ixT (gr_var rfl) gr_c hb (atI_nat (j := 0) rfl)
      have h1 : GR [some (.ref a), some (.str (kindS (.data u p))), some (.ref b)] H (tOp (rIxT K) (tVar 2) (tC (.int 1))) (.bl p.more) := gr_ixT (gr_var rfl) gr_c hb (atI_nat (j := 1) rfl)
      exact gv_record (gp_lst (ga_cons (by decide +kernel) hk (ga_cons (by decide +kernel) (gv_integer h0) (ga_cons (by decide +kernel) (gv_truth h1) ga_nil))) (Nat.le_of_ble_eq_true rfl)) (Nat.le_of_ble_eq_true rfl) H (Same.refl _) _ fun x H' s h => q H' x s h
    · have ez : z = .non := by
        cases i with
        | data u p => exact absurd ⟨u, p, rfl⟩ hd
        | _ => exact hz
      subst ez
      refine if_yes rfl ?_
      have hn : VR K H .null (.ref A.t_NULL) := by
        unfold VR
        exact ⟨_, rfl, T.w_NULL.at _⟩
      have ev : vItem i = .record [(oN "kind", .text (oN (kindS i))), (oN "value", .null), (oN "more", .null)] := by
        cases i with
        | data u p => exact absurd ⟨u, p, rfl⟩ hd
        | _ => rfl
      rw [ev] at q
      exact gv_record (gp_lst (ga_cons (by decide +kernel) hk (ga_cons (by decide +kernel) (gv_of _ hn gr_c) (ga_cons (by decide +kernel) (gv_of _ hn gr_c) ga_nil))) (Nat.le_of_ble_eq_true rfl)) (Nat.le_of_ble_eq_true rfl) H (Same.refl _) _ fun x H' s h => q H' x s h
theorem ok_told_step (T : Txt K mg A) : Ok P w K mg base CX0 3 A.f_told_step p_told_step (spToldStep K) := by
  have Gr := ok_record (P := P) (w := w) (base := base) T
  refine ok_of T.F_told_step sc_told_step (fun vs H Q E h => ?_) (fun cdv A' outer s H vs Q E hr h => ?_)
  · obtain ⟨y, v, b, rfl, _⟩ := h
    rfl
  · obtain ⟨y, v, b, rfl, hv, q⟩ := h
    refine ⟨_, pss_one (ps_ret (fn_call Gr T.g_record hr (pa_cons (pe_lst (pa_cons (pe_tup (pa_cons pe_str (pa_cons (pv 0) pa_nil)))
      (pa_cons (pe_tup (pa_cons pe_str (pa_cons (pe_ifExp (pt_val (pv 1)) (pe_glob (v := .ref A.t_TRUE) rfl T.v_TRUE rfl) (pe_glob (v := .ref A.t_FALSE) rfl T.v_FALSE rfl)) pa_nil))) pa_nil))) pa_nil))), ?_⟩
    have hb : GV K (start n_told_step [y, .bl b]) H (tIf (tB (tVar 1)) (tC (.ref A.t_TRUE)) (tC (.ref A.t_FALSE))) (.bool b) := by
      intro H1 s1 Q1 h1
      refine ⟨_, rfl, _, rfl, ?_⟩
      cases b with
      | true =>
        refine if_yes rfl ?_
        refine h1 _ _ (Same.refl _) ?_
        unfold VR
        exact ⟨_, rfl, T.w_TRUE.at _⟩
      | false =>
        refine if_no rfl ?_
        refine h1 _ _ (Same.refl _) ?_
        unfold VR
        exact ⟨_, rfl, T.w_FALSE.at _⟩
    exact gv_record (gp_lst (ga_cons (by decide +kernel) (gv_of _ hv (gr_var rfl)) (ga_cons (by decide +kernel) hb ga_nil)) (Nat.le_of_ble_eq_true rfl)) (Nat.le_of_ble_eq_true rfl) H (Same.refl _) _ fun x H' s h => q H' x s h
end
end Rl
end
section
set_option Elab.async false
set_option linter.all false
set_option maxRecDepth 100000
set_option maxHeartbeats 4000000
/-! RlT2: told ends, links, logs. -/
namespace Rl
open PySem PySem.Spec PyProof.Rows L2

def vEnd (e : ME) : RWire.Value := .record [(oN "resetting", .bool e.waits), (oN "open", .int (e.cnt false)), (oN "openUrgent", .int (e.cnt true)), (oN "inbox", vPks (e.inn false)), (oN "urgent", vPks (e.inn true)), (oN "resets", .int e.resets)]
def vItems (l : List Itm) : RWire.Value := .list (l.map vItem)
def vLink (m : ML) : RWire.Value := .record [(oN "left", vEnd (m.e false)), (oN "right", vEnd (m.e true)), (oN "toRight", vItems (m.q true)), (oN "toLeft", vItems (m.q false))]
def vLog (e : ME) (u : Bool) : RWire.Value := .record [(oN "sent", .list ((e.hist false u).map vPks)), (oN "got", .list ((e.hist true u).map vPks))]
def spToldEnd (K : PySem.W.Frag) (A : Adr) : Sp := fun vs H Q _ => ∃ (ρ : Gh) (π : Pth) (s : Bool) (a : Addr) (e : ME) (n : Nat), vs = [.ref a] ∧ Trk ρ H ∧ EndAt K A.c_E ρ H π s a e ∧ EBd n e ∧ n < 16000000 ∧ ∀ H' x, Same H H' → VR K H' (vEnd e) x → Q x H'
def spToldLink (K : PySem.W.Frag) (A : Adr) : Sp := fun vs H Q _ => ∃ (ρ : Gh) (π : Pth) (p : Addr) (m : ML) (n : Nat), vs = [.ref p] ∧ Trk ρ H ∧ LinkAt K A ρ H π p m ∧ Bd n m ∧ n < 16000000 ∧ ∀ H' x, Same H H' → VR K H' (vLink m) x → Q x H'
def spToldLog (K : PySem.W.Frag) (A : Adr) : Sp := fun vs H Q _ => ∃ (ρ : Gh) (π : Pth) (s u : Bool) (a : Addr) (e : ME) (n : Nat), vs = [.ref a, .int (bI u)] ∧ Trk ρ H ∧ EndAt K A.c_E ρ H π s a e ∧ EBd n e ∧ n < 16000000 ∧ ∀ H' x, Same H H' → VR K H' (vLog e u) x → Q x H'
theorem endF_resets' {w : Bool} {ac ai a0 a1 : Addr} {n : Nat} : (endF w ac ai n a0 a1).lookup ("resets" : Str) = some (.int n) := endF_resets
section
variable {P : Program} {w : World} {K : PySem.W.Frag} {mg : Str → Option Value} {base : Heap} {A : Adr}
theorem gv_pks {σ : L2.St} {H : Hp} {te : TE} {a : Addr} {ys : List V} {l : List Pk} (g : GR σ H te (.ref a)) (h : SqL K H a ys) (hp : PkAll K H l ys) (hl : l.length ≤ 16000000) : GV K σ H (tCall (spToldPks K) [] E0 (tCons te tNil)) (vPks l) :=
  fun H1 s1 Q h1 => g H1 s1 _ ⟨a, ys, l, rfl, s1.seq h, PkAll.tst s1.tst hp, hl, fun H2 x s2 h2 => h1 x H2 s2 h2⟩
theorem gv_end {σ : L2.St} {ρ : Gh} {π : Pth} {s : Bool} {H : Hp} {te : TE} {a : Addr} {e : ME} {n : Nat} (g : GR σ H te (.ref a)) (ht : Trk ρ H) (h : EndAt K A.c_E ρ H π s a e) (hb : EBd n e) (hn : n < 16000000) : GV K σ H (tCall (spToldEnd K A) [] E0 (tCons te tNil)) (vEnd e) := by
  intro H1 s1 Q h1
  obtain ⟨x, h⟩ := h
  exact g H1 s1 _ ⟨ρ, π, s, a, e, n, rfl, ht.same s1, ⟨x, h.mv (Mv.same ht s1)⟩, hb, hn, fun H2 x s2 h2 => h1 x H2 s2 h2⟩
theorem ok_told_end (T : Txt K mg A) : Ok P w K mg base CX0 5 A.f_told_end p_told_end (spToldEnd K A) := by
  have Gi := ok_integer (P := P) (w := w) (base := base) T
  have Gt := ok_truth (P := P) (w := w) (base := base) T
  have Gp := ok_told_packets (P := P) (w := w) (base := base) T
  have Gr := ok_record (P := P) (w := w) (base := base) T
  refine ok_of T.F_told_end sc_told_end (fun vs H Q E h => ?_) (fun cdv A' outer s H vs Q E hr h => ?_)
  · obtain ⟨ρ, π, s, a, e, n, rfl, _⟩ := h
    rfl
  · obtain ⟨ρ, π, s, a, e, n, rfl, ht, ⟨x, c⟩, hb, hn, q⟩ := h
    refine ⟨_, pss_cons (ps_set (i := 1) sc_told_end.nd rfl (Or.inl rfl) (pe_lst (pa_cons (pe_tup (pa_cons pe_str (pa_cons (fn_call Gt T.g_truth hr (pa_cons (pe_fld (pv 0) rfl) pa_nil)) pa_nil)))
        (pa_cons (pe_tup (pa_cons pe_str (pa_cons (fn_call Gi T.g_integer hr (pa_cons (pe_ix ix_list (pe_fld (pv 0) rfl) pe_int (fun _ _ => rfl)) pa_nil)) pa_nil)))
        (pa_cons (pe_tup (pa_cons pe_str (pa_cons (fn_call Gi T.g_integer hr (pa_cons (pe_ix ix_list (pe_fld (pv 0) rfl) pe_int (fun _ _ => rfl)) pa_nil)) pa_nil))) pa_nil)))))
      (pss_cons (ps_expr (pe_extend (pv 1) (pe_lst (pa_cons (pe_tup (pa_cons pe_str (pa_cons (fn_call Gp T.g_told_packets hr (pa_cons (pe_ix ix_list (pe_fld (pv 0) rfl) pe_int (fun _ _ => rfl)) pa_nil)) pa_nil)))
        (pa_cons (pe_tup (pa_cons pe_str (pa_cons (fn_call Gp T.g_told_packets hr (pa_cons (pe_ix ix_list (pe_fld (pv 0) rfl) pe_int (fun _ _ => rfl)) pa_nil)) pa_nil))) pa_nil)))))
      (pss_one (ps_ret (fn_call Gr T.g_record hr (pa_cons (pe_op op_cat (pv 1) (pe_lst (pa_cons (pe_tup (pa_cons pe_str (pa_cons (fn_call Gi T.g_integer hr (pa_cons (pe_fld (pv 0) rfl) pa_nil)) pa_nil))) pa_nil))) pa_nil))))), ?_⟩
    have h0 : GR (start n_told_end [.ref a]) H (tFld K (tVar 0) "waits") (.bl e.waits) := gr_fld (gr_var rfl) c.o.h T.cl_E T.a_E_waits endF_waits
    have hc : GR (start n_told_end [.ref a]) H (tFld K (tVar 0) "counts") (.ref x.ac) := gr_fld (gr_var rfl) c.o.h T.cl_E T.a_E_counts endF_counts
    have h1 : GR (start n_told_end [.ref a]) H (tOp (rIxL K) (tFld K (tVar 0) "counts") (tC (.int 0))) (.int (e.cnt false)) := gr_ixL hc gr_c (SqL.of c.c.h) (at2 (f := fun z => .int (e.cnt z)) false)
    have h2 : GR (start n_told_end [.ref a]) H (tOp (rIxL K) (tFld K (tVar 0) "counts") (tC (.int 1))) (.int (e.cnt true)) := gr_ixL hc gr_c (SqL.of c.c.h) (at2 (f := fun z => .int (e.cnt z)) true)
    have g1 := gp_lst (K := K) (ga_cons (z := "resetting") (by decide +kernel) (gv_truth h0) (ga_cons (z := "open") (by decide +kernel) (gv_integer h1) (ga_cons (z := "openUrgent") (by decide +kernel) (gv_integer h2) ga_nil))) (Nat.le_of_ble_eq_true rfl)
    refine seq_in ?_
    refine asg_in ?_
    refine g1 H (Same.refl _) _ fun D xs H1 s1 nD hD hx => ?_
    obtain ⟨v0, hv0, ci0⟩ := c.i.b false
    obtain ⟨v1, hv1, ci1⟩ := c.i.b true
    have hi : GR [some (.ref a), some (.ref D)] H (tFld K (tVar 0) "inboxes") (.ref x.ai) := gr_fld (gr_var rfl) c.o.h T.cl_E T.a_E_inboxes endF_inboxes
    have h3 : GR [some (.ref a), some (.ref D)] H (tOp (rIxL K) (tFld K (tVar 0) "inboxes") (tC (.int 0))) (.ref (x.aI false)) := gr_ixL hi gr_c (SqL.of c.i.l.h) (at2 (f := fun z => .ref (x.aI z)) false)
    have h4 : GR [some (.ref a), some (.ref D)] H (tOp (rIxL K) (tFld K (tVar 0) "inboxes") (tC (.int 1))) (.ref (x.aI true)) := gr_ixL hi gr_c (SqL.of c.i.l.h) (at2 (f := fun z => .ref (x.aI z)) true)
    have g2 := gp_lst (K := K) (ga_cons (z := "inbox") (by decide +kernel) (gv_pks h3 (SqL.of ci0.h) hv0 (by have := hb.i false; omega)) (ga_cons (z := "urgent") (by decide +kernel) (gv_pks h4 (SqL.of ci1.h) hv1 (by have := hb.i true; omega)) ga_nil)) (Nat.le_of_ble_eq_true rfl)
    refine ⟨_, rfl, .inl ⟨rfl, _, SqL.of hD⟩, ?_⟩
    refine cons_in ?_
    refine g2 H1 s1 _ fun D2 ys H2 s2 n2 hD2 hy => ?_
    have hD' := s2 _ _ hD
    have hne : D2 ≠ D := fun z => by rw [z] at n2; rw [hD] at n2; cases n2
    have hlx := hx.1
    have hly := hy.1
    refine ⟨D, D2, xs, ys, rfl, rfl, hD', hD2, sz_le (by rw [hlx, hly]; exact Nat.le_of_ble_eq_true rfl), ?_⟩
    have tt : TSt K H2 (upd H2 D (.lst (xs ++ ys))) := TSt.upd hD' trivial
    have s3 : Same H (upd H2 D (.lst (xs ++ ys))) := (s1.trans s2).mut nD
    have hxy := (PrAll.app (hx.tst s2.tst) hy).tst tt
    have c3 := c.mv (Mv.same ht s3)
    have h5 : GR [some (.ref a), some (.ref D)] (upd H2 D (.lst (xs ++ ys))) (tFld K (tVar 0) "resets") (.int e.resets) := gr_fld (gr_var rfl) c3.o.h T.cl_E T.a_E_resets endF_resets
    have g3 := gp_lst (K := K) (ga_cons (z := "resets") (by decide +kernel) (gv_integer h5) ga_nil) (Nat.le_of_ble_eq_true rfl)
    dsimp only [gName]
    refine ret_in ?_
    exact gv_reccat (i := 1) rfl upd_same hxy g3 (Nat.le_of_ble_eq_true rfl) _ (Same.refl _) _ fun x H' s h => q H' x (s3.trans s) h
theorem ok_told_link (T : Txt K mg A) : Ok P w K mg base CX0 6 A.f_told_link p_told_link (spToldLink K A) := by
  have Ge := ok_told_end (P := P) (w := w) (base := base) T
  have Gi := ok_told_item (P := P) (w := w) (base := base) T
  have Gl := ok_listed (P := P) (w := w) (base := base) T
  have Gr := ok_record (P := P) (w := w) (base := base) T
  refine ok_of T.F_told_link sc_told_link (fun vs H Q E h => ?_) (fun cdv A' outer s H vs Q E hr h => ?_)
  · obtain ⟨ρ, π, p, m, n, rfl, _⟩ := h
    rfl
  · obtain ⟨ρ, π, p, m, n, rfl, ht, ⟨x, c⟩, hb, hn, q⟩ := h
    obtain ⟨uL, hL, rL⟩ := T.v_LEFT
    obtain ⟨uR, hR, rR⟩ := T.v_RIGHT
    refine ⟨_, pss_cons (ps_set (i := 1) sc_told_link.nd rfl (Or.inl rfl) (pe_lst (pa_cons (pe_tup (pa_cons pe_str (pa_cons (fn_call Ge T.g_told_end hr (pa_cons (pe_ix ix_list (pe_fld (pv 0) rfl) (pe_glob rfl hL rL) (fun _ _ => rfl)) pa_nil)) pa_nil)))
        (pa_cons (pe_tup (pa_cons pe_str (pa_cons (fn_call Ge T.g_told_end hr (pa_cons (pe_ix ix_list (pe_fld (pv 0) rfl) (pe_glob rfl hR rR) (fun _ _ => rfl)) pa_nil)) pa_nil))) pa_nil))))
      (pss_cons (ps_expr (pe_append (pv 1) (pe_tup (pa_cons pe_str (pa_cons (fn_call Gl T.g_listed hr (pa_cons
        (pe_lc (own := [("item", 2)]) (g := gName 2) (by rfl) sc_told_link.nd (pi_list (pe_ix ix_list (pe_fld (pv 0) rfl) (pe_glob rfl hR rR) (fun _ _ => rfl))) (blkOk_by (own := [("item", 2)]) (N := n_told_link) (sc := defScope s_told_link) (by decide +kernel)) (fun _ _ _ _ _ => pg_name (i := 2) sc_told_link.nd rfl (Or.inl rfl)) (fun _ _ _ _ _ => pts_nil)
          (fun _ _ _ _ _ => fn_call Gi T.g_told_item hr (pa_cons (pv 2) pa_nil))) pa_nil)) pa_nil)))))
      (pss_one (ps_ret (fn_call Gr T.g_record hr (pa_cons (pe_op op_cat (pv 1) (pe_lst (pa_cons (pe_tup (pa_cons pe_str (pa_cons (fn_call Gl T.g_listed hr (pa_cons
        (pe_lc (own := [("item", 2)]) (g := gName 2) (by rfl) sc_told_link.nd (pi_list (pe_ix ix_list (pe_fld (pv 0) rfl) (pe_glob rfl hL rL) (fun _ _ => rfl))) (blkOk_by (own := [("item", 2)]) (N := n_told_link) (sc := defScope s_told_link) (by decide +kernel)) (fun _ _ _ _ _ => pg_name (i := 2) sc_told_link.nd rfl (Or.inl rfl)) (fun _ _ _ _ _ => pts_nil)
          (fun _ _ _ _ _ => fn_call Gi T.g_told_item hr (pa_cons (pv 2) pa_nil))) pa_nil)) pa_nil))) pa_nil))) pa_nil))))), ?_⟩
    have hen : GR (start n_told_link [.ref p]) H (tFld K (tVar 0) "ends") (.ref x.ae) := gr_fld (gr_var rfl) c.o.h T.cl_L T.a_L_ends linkF_ends
    have he : ∀ s, GR (start n_told_link [.ref p]) H (tOp (rIxL K) (tFld K (tVar 0) "ends") (tC (.int (bI s)))) (.ref (x.aE s)) := fun s => gr_ixL hen gr_c (SqL.of c.en.h) (at2 (f := fun z => .ref (x.aE z)) s)
    have g1 := gp_lst (K := K) (ga_cons (z := "left") (by decide +kernel) (gv_end (he false) ht ⟨_, c.e false⟩ (hb.e false) hn) (ga_cons (z := "right") (by decide +kernel) (gv_end (he true) ht ⟨_, c.e true⟩ (hb.e true) hn) ga_nil)) (Nat.le_of_ble_eq_true rfl)
    refine seq_in ?_
    refine asg_in ?_
    refine g1 H (Same.refl _) _ fun D xs H1 s1 nD hD hx => ?_
    have items : ∀ (H0 : Hp) (s : Same H H0) (d : Bool), GV K [some (.ref p), some (.ref D), none] H0 (tCall (spListed K) [] E0 (tCons (tLc (iList K (tOp (rIxL K) (tFld K (tVar 0) "queues") (tC (.int (bI d))))) (gName 2) tYes (tCall (spToldItem K) [] E0 (tCons (tVar 2) tNil)) [2]) tNil)) (vItems (m.q d)) := by
      intro H0 s d
      have c0 := c.mv (Mv.same ht s)
      obtain ⟨vs, hv, cq⟩ := c0.q d
      have hqu : GR [some (.ref p), some (.ref D), none] H0 (tFld K (tVar 0) "queues") (.ref x.aq) := gr_fld (gr_var rfl) c0.o.h T.cl_L T.a_L_queues linkF_queues
      have hq : GR [some (.ref p), some (.ref D), none] H0 (tOp (rIxL K) (tFld K (tVar 0) "queues") (tC (.int (bI d)))) (.ref (x.aQ d)) := gr_ixL hqu gr_c (SqL.of c0.qu.h) (at2 (f := fun z => .ref (x.aQ z)) d)
      have len := hv.length
      refine gv_listed (gls_lc (l := (m.q d).map vItem) hq (SqL.of cq.h) (by rw [List.length_map]; exact len) (by rw [List.length_map]; have := hb.q d; omega) (fun _ => rfl) ?_)
      intro i y v hy hv'
      rw [List.getElem?_map] at hv'
      obtain ⟨it, hit, hia⟩ := hv.getR hy
      rw [hit] at hv'
      cases hv'
      intro H2 s2 Q1 h1
      exact ⟨_, rfl, y, it, rfl, ItAt.tst s2.tst hia, fun H3 x s3 h3 => h1 x H3 s3 h3⟩
    refine ⟨_, rfl, .inl ⟨rfl, _, SqL.of hD⟩, ?_⟩
    refine cons_in ?_
    refine items H1 s1 true H1 (Same.refl _) _ fun y H2 s2 hy => ?_
    refine ⟨two_le, fun t htt => ?_⟩
    have s3 : Same H2 (upd H2 t (.tup [.str "toRight", y])) := Same.new htt
    have hD' := s3 _ _ (s2 _ _ hD)
    refine ⟨D, xs, .ref t, rfl, rfl, hD', by rw [hx.1]; exact sz_lt' (Nat.le_of_ble_eq_true rfl), ?_⟩
    have tt : TSt K (upd H2 t (.tup [.str "toRight", y])) (upd (upd H2 t (.tup [.str "toRight", y])) D (.lst (xs ++ [.ref t]))) := TSt.upd hD' trivial
    have s4 := ((s1.trans s2).trans s3).mut (o := .lst (xs ++ [.ref t])) nD
    have hxy := (PrAll.app (hx.tst (s2.trans s3).tst) (show PrAll K (upd H2 t (.tup [.str "toRight", y])) [(oN "toRight", vItems (m.q true))] [.ref t] from ⟨rfl, fun i e x h1 h2 => by
      match i, h1, h2 with
      | 0, h1, h2 =>
        cases h1
        cases h2
        exact ⟨t, "toRight", y, rfl, .of upd_same, by decide +kernel, okN_c (by decide +kernel), s3.vr hy⟩⟩)).tst tt
    have g3 := gp_lst (K := K) (ga_cons (z := "toLeft") (by decide +kernel) (items _ s4 false) ga_nil) (Nat.le_of_ble_eq_true rfl)
    dsimp only [gName]
    refine ret_in ?_
    exact gv_reccat (i := 1) rfl upd_same hxy g3 (Nat.le_of_ble_eq_true rfl) _ (Same.refl _) _ fun x H' s h => q H' x (s4.trans s) h
theorem gv_rows {σ : L2.St} {ρ : Gh} {π : Pth} {s g : Bool} {H : Hp} {ah : Addr} {aR : Bool → Addr} {aW : Bool → List Addr} {hist : Bool → List (List Pk)} {tl : TE} {k : Nat} {vs : List Nat} {u : Bool} (c : HstIs K ρ H π s g ah aR aW hist) (hg : GR σ H tl (.ref (aR u)))
    (hl : (hist u).length ≤ 16000000) (hr : ∀ l ∈ hist u, l.length ≤ 16000000) (hw : ∀ y : V, wipe ((wipe σ vs).set k (some y)) vs = wipe σ vs) (hk : ∀ y : V, ((wipe σ vs).set k (some y))[k]? = some (some y)) :
    GV K σ H (tCall (spListed K) [] E0 (tCons (tLc (iList K tl) (gName k) tYes (tCall (spToldPks K) [] E0 (tCons (tVar k) tNil)) vs) tNil)) (.list ((hist u).map vPks)) := by
  have hn := c.n u
  refine gv_listed (gls_lc (l := (hist u).map vPks) hg (SqL.of (c.r u).h) (by rw [List.length_map, List.length_map, hn]) (by rw [List.length_map]; exact hl) hw ?_)
  intro i y v hy hv
  rw [List.getElem?_map] at hv hy
  cases ea : (aW u)[i]? with
  | none => rw [ea] at hy; cases hy
  | some a =>
    cases el : (hist u)[i]? with
    | none => rw [el] at hv; cases hv
    | some l =>
      rw [ea] at hy
      rw [el] at hv
      cases hy
      cases hv
      obtain ⟨ys, hp, cr⟩ := c.w u i a l ea el
      exact gv_pks (gr_var (hk _)) (SqL.of cr.h) hp (hr l (List.mem_of_getElem? el))
theorem ok_told_log (T : Txt K mg A) : Ok P w K mg base CX0 5 A.f_told_log p_told_log (spToldLog K A) := by
  have Gp := ok_told_packets (P := P) (w := w) (base := base) T
  have Gl := ok_listed (P := P) (w := w) (base := base) T
  have Gr := ok_record (P := P) (w := w) (base := base) T
  refine ok_of T.F_told_log sc_told_log (fun vs H Q E h => ?_) (fun cdv A' outer s H vs Q E hr h => ?_)
  · obtain ⟨ρ, π, s, u, a, e, n, rfl, _⟩ := h
    rfl
  · obtain ⟨ρ, π, s, u, a, e, n, rfl, ht, ⟨x, c⟩, hb, hn, q⟩ := h
    refine ⟨_, pss_cons (ps_set (i := 2) sc_told_log.nd rfl (Or.inl rfl) (fn_call Gl T.g_listed hr (pa_cons
        (pe_lc (own := [("row", 3)]) (g := gName 3) (by rfl) sc_told_log.nd (pi_list (pe_ix ix_list (pe_fld (pv 0) rfl) (pv 1) (fun _ _ => rfl))) (blkOk_by (own := [("row", 3)]) (N := n_told_log) (sc := defScope s_told_log) (by decide +kernel)) (fun _ _ _ _ _ => pg_name (i := 3) sc_told_log.nd rfl (Or.inl rfl)) (fun _ _ _ _ _ => pts_nil)
          (fun _ _ _ _ _ => fn_call Gp T.g_told_packets hr (pa_cons (pv 3) pa_nil))) pa_nil)))
      (pss_one (ps_ret (fn_call Gr T.g_record hr (pa_cons (pe_lst (pa_cons (pe_tup (pa_cons pe_str (pa_cons (pv 2) pa_nil))) (pa_cons (pe_tup (pa_cons pe_str (pa_cons (fn_call Gl T.g_listed hr (pa_cons
        (pe_lc (own := [("row", 3)]) (g := gName 3) (by rfl) sc_told_log.nd (pi_list (pe_ix ix_list (pe_fld (pv 0) rfl) (pv 1) (fun _ _ => rfl))) (blkOk_by (own := [("row", 3)]) (N := n_told_log) (sc := defScope s_told_log) (by decide +kernel)) (fun _ _ _ _ _ => pg_name (i := 3) sc_told_log.nd rfl (Or.inl rfl)) (fun _ _ _ _ _ => pts_nil)
          (fun _ _ _ _ _ => fn_call Gp T.g_told_packets hr (pa_cons (pv 3) pa_nil))) pa_nil)) pa_nil))) pa_nil))) pa_nil)))), ?_⟩
    have hf : GR (start n_told_log [.ref a, .int (bI u)]) H (tFld K (tVar 0) "sent") (.ref (x.ah false)) := gr_fld (gr_var rfl) c.o.h T.cl_E T.a_E_sent endF_sent
    have h1 : GR (start n_told_log [.ref a, .int (bI u)]) H (tOp (rIxL K) (tFld K (tVar 0) "sent") (tVar 1)) (.ref (x.aR false u)) := gr_ixL hf (gr_var rfl) (SqL.of (c.h false).l.h) (at2 (f := fun z => .ref (x.aR false z)) u)
    refine seq_in ?_
    refine asg_in ?_
    refine gv_rows (c.h false) h1 (by have := hb.h false u; omega) (fun l hl => by have := hb.r false u l hl; omega) (fun _ => rfl) (fun _ => rfl) H (Same.refl _) _ fun y H1 s1 hy => ?_
    have c1 := c.mv (Mv.same ht s1)
    have hf : GR [some (.ref a), some (.int (bI u)), some y, none] H1 (tFld K (tVar 0) "got") (.ref (x.ah true)) := gr_fld (gr_var rfl) c1.o.h T.cl_E T.a_E_got endF_got
    have h2 : GR [some (.ref a), some (.int (bI u)), some y, none] H1 (tOp (rIxL K) (tFld K (tVar 0) "got") (tVar 1)) (.ref (x.aR true u)) := gr_ixL hf (gr_var rfl) (SqL.of (c1.h true).l.h) (at2 (f := fun z => .ref (x.aR true z)) u)
    dsimp only [gName]
    refine ret_in ?_
    exact gv_record (gp_lst (ga_cons (z := "sent") (by decide +kernel) (gv_of _ hy (gr_var rfl)) (ga_cons (z := "got") (by decide +kernel) (gv_rows (c1.h true) h2 (by have := hb.h true u; omega) (fun l hl => by have := hb.r true u l hl; omega) (fun _ => rfl) (fun _ => rfl)) ga_nil)) (Nat.le_of_ble_eq_true rfl)) (Nat.le_of_ble_eq_true rfl) H1 (Same.refl _) _ fun x H' s h => q H' x (s1.trans s) h
end
end Rl
end
section
set_option Elab.async false
set_option linter.all false
set_option maxRecDepth 100000
set_option maxHeartbeats 4000000
/-! RlT3: messages. -/
namespace Rl
open PySem PySem.Spec PyProof.Rows L2
open R7251g.Spec (messagesFrom messages)

def nV (m : List Nat) : List V := m.map fun n => V.int (n : Nat)
def MsAll (H : Hp) (ms : List (List Nat)) (zs : List V) : Prop := zs.length = ms.length ∧ ∀ (i : Nat) (m : List Nat) (z : V), ms[i]? = some m → zs[i]? = some z → ∃ b, z = .ref b ∧ H b = some (.lst (nV m))
def vMsgs (e : ME) : RWire.Value := .list ((e.hist true false).map fun row => .list ((messages row).map fun m => .list (m.map fun n => .int (n : Nat))))
theorem msF_cons (r : List Nat) (p : Pk) (t : List Pk) : messagesFrom r (p :: t) = if p.more then messagesFrom (r ++ [p.value]) t else (r ++ [p.value]) :: messagesFrom [] t := rfl
theorem msF_len : ∀ (l : List Pk) (r : List Nat), (messagesFrom r l).length ≤ l.length
  | [], _ => Nat.le_refl _
  | p :: t, r => by
    unfold messagesFrom
    split
    · exact Nat.le_succ_of_le (msF_len t _)
    · rw [List.length_cons, List.length_cons]
      exact Nat.succ_le_succ (msF_len t [])
theorem msF_each : ∀ (l : List Pk) (r m : List Nat), m ∈ messagesFrom r l → m.length ≤ r.length + l.length
  | [], _, m, h => by unfold messagesFrom at h; cases h
  | p :: t, r, m, h => by
    unfold messagesFrom at h
    split at h
    · have := msF_each t _ m h
      rw [List.length_append, List.length_singleton] at this
      rw [List.length_cons]; omega
    · rcases List.mem_cons.mp h with q | q
      · rw [q, List.length_append, List.length_singleton, List.length_cons]; omega
      · have := msF_each t [] m q
        rw [List.length_nil] at this
        rw [List.length_cons]; omega
def spMessages (K : PySem.W.Frag) : Sp := fun vs H Q _ => ∃ (a : Addr) (ys : List V) (l : List Pk), vs = [.ref a] ∧ H a = some (.lst ys) ∧ PkAll K H l ys ∧ l.length ≤ 15000000 ∧ ∀ H' D zs, Same H H' → H' D = some (.lst zs) → MsAll H' (messages l) zs → Q (.ref D) H'
def spToldMsgs (K : PySem.W.Frag) (A : Adr) : Sp := fun vs H Q _ => ∃ (ρ : Gh) (π : Pth) (s : Bool) (a : Addr) (e : ME) (n : Nat), vs = [.ref a] ∧ Trk ρ H ∧ EndAt K A.c_E ρ H π s a e ∧ EBd n e ∧ n < 15000000 ∧ ∀ H' x, Same H H' → VR K H' (vMsgs e) x → Q x H'
section
variable {P : Program} {w : World} {K : PySem.W.Frag} {mg : Str → Option Value} {base : Heap} {A : Adr}
theorem ok_messages_of (T : Txt K mg A) : Ok P w K mg base CX0 1 A.f_messages_of p_messages_of (spMessages K) := by
  refine ok_of T.F_messages_of sc_messages_of (fun vs H Q E h => ?_) (fun cdv A' outer s H vs Q E hr h => ?_)
  · obtain ⟨a, ys, l, rfl, _⟩ := h
    rfl
  · obtain ⟨a, ys, l, rfl, ha, hp, hl, q⟩ := h
    refine ⟨_, pss_cons (ps_set (i := 1) sc_messages_of.nd rfl (Or.inl rfl) (pe_lst pa_nil))
      (pss_cons (ps_set (i := 2) sc_messages_of.nd rfl (Or.inl rfl) (pe_lst pa_nil))
      (pss_cons (ps_for PassesOwn.never rfl (pi_list (pv 0)) (pg_tup rfl (pgs_cons (pg_name (i := 3) sc_messages_of.nd rfl (Or.inl rfl)) (pgs_cons (pg_name (i := 4) sc_messages_of.nd rfl (Or.inl rfl)) pgs_nil)))
        (pss_cons (ps_expr (pe_append (pv 2) (pv 3)))
        (pss_one (ps_if (pt_not (pt_val (pv 4)))
          (pss_cons (ps_expr (pe_append (pv 1) (pv 2)))
          (pss_one (ps_set (i := 2) sc_messages_of.nd rfl (Or.inl rfl) (pe_lst pa_nil)))) pss_nil))))
      (pss_one (ps_ret (pv 1))))), ?_⟩
    have len := hp.length
    refine ⟨Nat.zero_le _, fun F hF => ?_⟩
    have s1 : Same H (upd H F (.lst [])) := Same.new hF
    refine ⟨Nat.zero_le _, fun R hR => ?_⟩
    have hR0 : H R = none := by
      cases e : H R with
      | none => rfl
      | some o => rw [s1 _ _ e] at hR; cases hR
    have hne : F ≠ R := fun z => by rw [← z, upd_same] at hR; cases hR
    refine ⟨_, rfl, a, rfl, ⟨_, ((s1.trans (Same.new hR)).seq (.of ha))⟩, for_it (walk_list (xs := ys)) (fun i σ H' => ∃ (F R : Addr) (fs : List Addr) (r : List Nat) (v3 v4 : Option V) (done : List (List Nat)), σ = [some (.ref a), some (.ref F), some (.ref R), v3, v4] ∧ Same H H' ∧ H F = none ∧ H R = none ∧ F ≠ R ∧
        H' F = some (.lst (fs.map V.ref)) ∧ H' R = some (.lst (nV r)) ∧ R ∉ fs ∧ F ∉ fs ∧ done.length = fs.length ∧ (∀ (j : Nat) (b : Addr) (m : List Nat), fs[j]? = some b → done[j]? = some m → H' b = some (.lst (nV m))) ∧ messagesFrom [] l = done ++ messagesFrom r (l.drop i) ∧ r.length ≤ i ∧ fs.length ≤ i)
      ⟨F, R, [], [], none, none, [], rfl, s1.trans (Same.new hR), hF, hR0, hne, by rw [upd_ne hne, upd_same]; rfl, upd_same, by simp, by simp, rfl, fun j b m h => by simp at h, rfl, Nat.le_refl _, Nat.le_refl _⟩
      (fun i σ H' _ ⟨_, _, _, _, _, _, _, _, s, _⟩ => s.seq (.of ha)) ?_ ?_⟩
    · rintro i y σ H1 H' hi ⟨F, R, fs, r, v3, v4, done, rfl, s2, hF, hR, hne, hF1, hR1, nR, nF, hd, hdn, hm, hr1, hf1⟩ ⟨rfl, hy⟩
      obtain ⟨p, hpi, ⟨b, rfl, hb⟩⟩ := hp.getR hy
      have hil : i < l.length := (List.getElem?_eq_some_iff.mp hpi).1
      have ep : l[i] = p := by
        rw [List.getElem?_eq_getElem hil] at hpi
        exact Option.some.inj hpi
      have edrop : l.drop i = p :: l.drop (i + 1) := by rw [List.drop_eq_getElem_cons hil, ep]
      rw [edrop] at hm
      refine ⟨b, _, rfl, s2.tup hb, rfl, _, _, rfl, _, _, rfl, rfl, ?_⟩
      refine ⟨_, rfl, .inl ⟨rfl, _, SqL.of hR1⟩, _, rfl, ?_⟩
      refine ⟨R, _, _, rfl, rfl, hR1, ?_, ?_⟩
      · unfold nV
        rw [List.length_map]
        exact sz_lt' (by omega)
      · have e1 : nV r ++ [V.int (p.value : Nat)] = nV (r ++ [p.value]) := by unfold nV; rw [List.map_append]; rfl
        rw [e1]
        have s3 : Same H (upd H' R (.lst (nV (r ++ [p.value])))) := s2.mut hR
        have keep : ∀ (j : Nat) (c : Addr) (m : List Nat), fs[j]? = some c → done[j]? = some m → (upd H' R (.lst (nV (r ++ [p.value])))) c = some (.lst (nV m)) := fun j c m h1 h2 => by
          rw [upd_ne (fun z => nR (by rw [← z]; exact List.mem_of_getElem? h1))]
          exact hdn j c m h1 h2
        refine ⟨_, rfl, _, rfl, ?_⟩
        rw [msF_cons] at hm
        cases hmo : p.more with
        | true =>
          rw [hmo, if_pos rfl] at hm
          refine if_no rfl ?_
          exact ⟨F, R, fs, r ++ [p.value], _, _, done, rfl, s3, hF, hR, hne, by rw [upd_ne hne]; exact hF1, upd_same, nR, nF, hd, keep, hm, by rw [List.length_append, List.length_singleton]; omega, by omega⟩
        | false =>
          rw [hmo, if_neg Bool.false_ne_true] at hm
          refine if_yes rfl ?_
          have hF2 : (upd H' R (.lst (nV (r ++ [p.value])))) F = some (.lst (fs.map V.ref)) := by rw [upd_ne hne]; exact hF1
          refine ⟨_, rfl, .inl ⟨rfl, _, SqL.of hF2⟩, _, rfl, ?_⟩
          refine ⟨F, _, _, rfl, rfl, hF2, ?_, ?_⟩
          · rw [List.length_map]
            exact sz_lt' (by omega)
          · have e2 : fs.map V.ref ++ [V.ref R] = (fs ++ [R]).map V.ref := by rw [List.map_append]; rfl
            rw [e2]
            have s4 := s3.mut (o := .lst ((fs ++ [R]).map V.ref)) hF
            refine ⟨Nat.zero_le _, fun R' hR' => ?_⟩
            have hF3 := upd_same (H := upd H' R (.lst (nV (r ++ [p.value])))) (a := F) (o := .lst ((fs ++ [R]).map V.ref))
            have keep2 : ∀ (j : Nat) (c : Addr) (m : List Nat), (fs ++ [R])[j]? = some c → (done ++ [r ++ [p.value]])[j]? = some m → (upd (upd H' R (.lst (nV (r ++ [p.value])))) F (.lst ((fs ++ [R]).map V.ref))) c = some (.lst (nV m)) := by
              intro j c m h1 h2
              by_cases hj : j < fs.length
              · rw [List.getElem?_append_left hj] at h1
                rw [List.getElem?_append_left (by omega)] at h2
                rw [upd_ne (fun z => nF (by rw [← z]; exact List.mem_of_getElem? h1))]
                exact keep j c m h1 h2
              · rw [List.getElem?_append_right (by omega)] at h1
                rw [List.getElem?_append_right (by omega)] at h2
                have e : j = fs.length := by
                  have := (List.getElem?_eq_some_iff.mp h1).1
                  simp at this; omega
                subst e
                rw [hd] at h2
                simp at h1 h2
                subst h1; subst h2
                rw [upd_ne (fun z => hne z.symm), upd_same]
            have hne3 : ∀ {c : Addr} {u : HO}, (upd (upd H' R (.lst (nV (r ++ [p.value])))) F (.lst ((fs ++ [R]).map V.ref))) c = some u → c ≠ R' := fun h => ne_of_none h hR'
            have hR0 : H R' = none := by
              cases e : H R' with
              | none => rfl
              | some o => rw [s4 _ _ e] at hR'; cases hR'
            refine ⟨F, R', fs ++ [R], [], _, _, done ++ [r ++ [p.value]], rfl, s4.trans (Same.new hR'), hF, hR0, hne3 hF3, by rw [upd_ne (hne3 hF3), upd_same], upd_same, ?_, ?_, by rw [List.length_append, List.length_append, hd]; rfl, fun j c m h1 h2 => ?_, by rw [hm, List.append_assoc]; rfl, Nat.zero_le _, by rw [List.length_append, List.length_singleton]; omega⟩
            · intro hmem
              obtain ⟨j, hj⟩ := List.mem_iff_getElem?.mp hmem
              have hjl := (List.getElem?_eq_some_iff.mp hj).1
              have := keep2 j R' ((done ++ [r ++ [p.value]])[j]'(by rw [List.length_append] at *; rw [hd]; exact hjl)) hj (List.getElem?_eq_getElem _)
              rw [hR'] at this
              cases this
            · intro hmem
              rcases List.mem_append.mp hmem with z | z
              · exact nF z
              · rw [List.mem_singleton] at z
                exact hne z
            · have k := keep2 j c m h1 h2
              rw [upd_ne (hne3 k)]
              exact k
    · rintro σ H1 ⟨F, R, fs, r, v3, v4, done, rfl, s2, hF, hR, hne, hF1, hR1, nR, nF, hd, hdn, hm, _, _⟩
      refine ⟨_, rfl, q H1 F _ s2 hF1 ?_⟩
      have el : l.drop ys.length = [] := List.drop_eq_nil_of_le (by omega)
      rw [el] at hm
      have em : messages l = done := by
        show messagesFrom [] l = done
        rw [hm]
        unfold messagesFrom
        rw [List.append_nil]
      rw [em]
      refine ⟨by rw [List.length_map, hd], fun i m z h1 h2 => ?_⟩
      rw [List.getElem?_map] at h2
      cases e : fs[i]? with
      | none => rw [e] at h2; cases h2
      | some b =>
        rw [e] at h2
        cases h2
        exact ⟨b, rfl, hdn i b m e h1⟩
theorem ok_told_messages (T : Txt K mg A) : Ok P w K mg base CX0 4 A.f_told_messages p_told_messages (spToldMsgs K A) := by
  have Gm := ok_messages_of (P := P) (w := w) (base := base) T
  have Gi := ok_integers (P := P) (w := w) (base := base) T
  have Gl := ok_listed (P := P) (w := w) (base := base) T
  refine ok_of T.F_told_messages sc_told_messages (fun vs H Q E h => ?_) (fun cdv A' outer s H vs Q E hr h => ?_)
  · obtain ⟨ρ, π, s, a, e, n, rfl, _⟩ := h
    rfl
  · obtain ⟨ρ, π, s, a, e, n, rfl, ht, ⟨x, c⟩, hb, hn, q⟩ := h
    obtain ⟨uO, hO, rO⟩ := T.v_ORDINARY
    refine ⟨_, pss_cons (ps_set (i := 1) sc_told_messages.nd rfl (Or.inl rfl) (pe_lst pa_nil))
      (pss_cons (ps_for PassesOwn.never rfl (pi_list (pe_ix ix_list (pe_fld (pv 0) rfl) (pe_glob rfl hO rO) (fun _ _ => rfl))) (pg_name (i := 2) sc_told_messages.nd rfl (Or.inl rfl))
        (pss_one (ps_expr (pe_append (pv 1) (fn_call Gl T.g_listed hr (pa_cons
          (pe_lc (own := [("message", 3)]) (g := gName 3) (by rfl) sc_told_messages.nd (pi_list (fn_call Gm T.g_messages_of hr (pa_cons (pv 2) pa_nil))) (blkOk_by (own := [("message", 3)]) (N := n_told_messages) (sc := defScope s_told_messages) (by decide +kernel)) (fun _ _ _ _ _ => pg_name (i := 3) sc_told_messages.nd rfl (Or.inl rfl)) (fun _ _ _ _ _ => pts_nil)
            (fun _ _ _ _ _ => fn_call Gi T.g_integers hr (pa_cons (pv 3) pa_nil))) pa_nil))))))
      (pss_one (ps_ret (fn_call Gl T.g_listed hr (pa_cons (pv 1) pa_nil))))), ?_⟩
    have ch := c.h true
    have hn2 := ch.n false
    refine ⟨Nat.zero_le _, fun D hD => ?_⟩
    have s1 : Same H (upd H D (.lst [])) := Same.new hD
    have c1 := c.mv (Mv.same ht s1)
    refine ⟨_, rfl, a, _, x.dx, _, _, rfl, c1.o.h, T.cl_E, T.a_E_got, endF_got, x.ah true, _, 0, .ref (x.aR true false), rfl, rfl, SqL.of (c1.h true).l.h, at2 (f := fun z => .ref (x.aR true z)) false, x.aR true false, rfl, ⟨_, SqL.of ((c1.h true).r false).h⟩, ?_⟩
    refine for_it (walk_list (xs := (x.aW true false).map V.ref)) (fun i σ H' => ∃ (v2 : Option V) (zs : List V), σ = [some (.ref a), some (.ref D), v2, none] ∧ Same H H' ∧ H' D = some (.lst zs) ∧ zs.length = i ∧
        VRs K H' (((e.hist true false).take i).map fun row => .list ((messages row).map fun m => .list (m.map fun n => .int (n : Nat)))) zs)
      ⟨none, [], rfl, s1, upd_same, rfl, by unfold VRs; rfl⟩ (fun i σ H' _ ⟨_, _, _, s, _⟩ => s.seq (.of (ch.r false).h)) ?_ ?_
    · rintro i y σ H1 H' hi ⟨v2, zs, rfl, s2, hD2, hz, hv⟩ ⟨rfl, hy⟩
      rw [List.length_map] at hi
      have hi2 : i < (e.hist true false).length := by rw [← hn2]; exact hi
      rw [List.getElem?_map, List.getElem?_eq_getElem hi] at hy
      cases hy
      have c2 := c.mv (Mv.same ht s2)
      obtain ⟨ys, hp, cr⟩ := (c2.h true).w false i _ _ (List.getElem?_eq_getElem hi) (List.getElem?_eq_getElem hi2)
      have hrl := hb.r true false _ (List.getElem_mem hi2)
      refine ⟨_, rfl, .inl ⟨rfl, _, SqL.of hD2⟩, ?_⟩
      refine cons_in ?_
      have gm : GV K [some (.ref a), some (.ref D), some (.ref ((x.aW true false)[i])), none] H' (tCall (spListed K) [] E0 (tCons (tLc (iList K (tCall (spMessages K) [] E0 (tCons (tVar 2) tNil))) (gName 3) tYes (tCall (spIntegers K) [] E0 (tCons (tVar 3) tNil)) [3]) tNil)) (.list ((messages (e.hist true false)[i]).map fun m => .list (m.map fun n => .int (n : Nat)))) := by
        refine gv_listed (gls_lc2 (by rw [List.length_map]; have := msF_len (e.hist true false)[i] []; show (messagesFrom [] _).length ≤ _; omega) (fun _ => rfl) ?_)
        intro H3 s3 Q3 h3
        refine ⟨_, rfl, _, _, (e.hist true false)[i], rfl, s3 _ _ cr.h, PkAll.tst s3.tst hp, by omega, fun H4 D4 zs4 s4 hD4 hms => ?_⟩
        refine h3 D4 zs4 H4 s4 hD4 (by rw [List.length_map]; exact hms.1.symm) fun j z v hz hv => ?_
        rw [List.getElem?_map] at hv
        cases em : (messages (e.hist true false)[i])[j]? with
        | none => rw [em] at hv; cases hv
        | some m =>
          rw [em] at hv
          cases hv
          obtain ⟨b, rfl, hb4⟩ := hms.2 j m z em hz
          intro H5 s5 Q5 h5
          have e5 : nV m = (m.map fun n : Nat => (n : Int)).map V.int := by unfold nV; rw [List.map_map]; rfl
          have hml := msF_each (e.hist true false)[i] [] m (List.mem_of_getElem? em)
          refine ⟨_, rfl, b, m.map fun n : Nat => (n : Int), rfl, .of (by rw [← e5]; exact s5 _ _ hb4), by rw [List.length_map]; rw [List.length_nil] at hml; exact sz_le (by omega), fun H6 x6 s6 h6 => ?_⟩
          rw [List.map_map] at h6
          exact h5 x6 H6 s6 h6
      refine gm H' (Same.refl _) _ fun y H3 s3 hy3 => ?_
      have hD3 := s3 _ _ hD2
      refine ⟨D, zs, y, rfl, rfl, hD3, ?_, ?_⟩
      · have := hb.h true false
        exact sz_lt' (by omega)
      · have tt : TSt K H3 (upd H3 D (.lst (zs ++ [y]))) := TSt.upd hD3 trivial
        refine ⟨_, zs ++ [y], rfl, (s2.trans s3).mut hD, upd_same, by rw [List.length_append, hz]; rfl, ?_⟩
        rw [List.take_succ, List.getElem?_eq_getElem hi2, List.map_append]
        refine VRs.app (VRs.tst (s3.tst.trans tt) _ _ hv) ?_
        show VRs K _ [_] [y]
        unfold VRs
        exact ⟨y, [], rfl, VR.tst tt _ _ hy3, by unfold VRs; rfl⟩
    · rintro σ H1 ⟨v2, zs, rfl, s2, hD2, hz, hv⟩
      rw [List.take_of_length_le (by rw [List.length_map]; omega)] at hv
      exact ⟨_, rfl, D, zs, _, rfl, .of hD2, hv, fun H3 x s3 h3 => q H3 x (s2.trans s3) h3⟩
end
end Rl
end
section
set_option Elab.async false
set_option linter.all false
set_option maxRecDepth 100000
set_option maxHeartbeats 4000000
/-! RlD1: the doors on one circuit: what they do, by the mirror; octet_of, on_terminal. -/
namespace Rl
open PySem PySem.Spec PyProof.Rows L2

abbrev MRes := Except (Int × Str) (RWire.Value × List ML)
def intOfV : RWire.Value → Nat
  | .int i => i.toNat
  | _ => 0
def numM {α : Type} (v : RWire.Value) (name : Str) (a b : Nat) (f : Nat → Except (Int × Str) α) : Except (Int × Str) α := if isIntV v a b = true then f (intOfV v) else .error (1, numMsg name a b)
def sideM {α : Type} (v : RWire.Value) (name : Str) (f : Bool → Except (Int × Str) α) : Except (Int × Str) α := match sideV v with
  | some s => f s
  | none => .error (1, sideMsg name)
def refM {α : Type} (o : Option R7251g.Spec.Refusal) (r : Except (Int × Str) α) : Except (Int × Str) α := match o with
  | some x => .error (2, refS x)
  | none => r
def moreV : RWire.Value → Option Bool
  | .bool b => some b
  | _ => none
def moreMsg : Str := "more must be a boolean"
def sendM (L : List ML) (w : Nat) (a2 a3 a4 : RWire.Value) : MRes := sideM a2 "end" fun s => numM a3 "value" 0 255 fun n => match moreV a4 with
  | none => .error (1, moreMsg)
  | some b => refM (whyS L s false w) (.ok (.nothing, sendC L s false ⟨n, b⟩))
def urgeM (L : List ML) (w : Nat) (a2 a3 : RWire.Value) : MRes := sideM a2 "end" fun s => numM a3 "value" 0 255 fun n => refM (whyS L s true w) (.ok (.nothing, sendC L s true ⟨n, false⟩))
def readM (L : List ML) (u : Bool) (a2 : RWire.Value) : MRes := sideM a2 "end" fun s => match boxC L s u with
  | [] => .ok (.null, L)
  | p :: _ => .ok (vPk p, readC L s u)
def logM (L : List ML) (u : Bool) (a2 : RWire.Value) : MRes := sideM a2 "end" fun s => .ok (vLog ((at_ L (termOf L s)).e s) u, L)
def msgsM (L : List ML) (a2 : RWire.Value) : MRes := sideM a2 "end" fun s => .ok (vMsgs ((at_ L (termOf L s)).e s), L)
def fwdM (L : List ML) (w : Nat) (u : Bool) (a2 a3 : RWire.Value) : MRes := numM a2 "node" 1 (L.length - 1) fun n => sideM a3 "direction" fun d => refM (whyC L n d u w) (.ok (.nothing, fwdC L n d u))
def delM (L : List ML) (a2 a3 : RWire.Value) : MRes := numM a2 "link" 0 (L.length - 1) fun k => sideM a3 "direction" fun d => match headC L k d with
  | none => .ok (.null, L)
  | some i => .ok (.text (oN (kindS i)), deliverC L k d)
def resM (L : List ML) (a2 : RWire.Value) : MRes := numM a2 "node" 0 L.length fun k => .ok (.nothing, resetC L k)
def runM (L : List ML) (w : Nat) (a2 : RWire.Value) : MRes := numM a2 "limit" 0 1000 fun l => .ok (.int ((runC w l L).1 : Nat), (runC w l L).2)
def linkM (L : List ML) (a2 : RWire.Value) : MRes := numM a2 "link" 0 (L.length - 1) fun k => .ok (vLink (at_ L k), L)
def termM (L : List ML) (w : Nat) (d : Nat) (a2 a3 a4 : RWire.Value) : MRes := match d with
  | 0 => sendM L w a2 a3 a4
  | 1 => urgeM L w a2 a3
  | 2 => readM L false a2
  | 3 => readM L true a2
  | 10 => logM L false a2
  | 11 => logM L true a2
  | _ => msgsM L a2
def circM (L : List ML) (w : Nat) (d : Nat) (a2 a3 : RWire.Value) : MRes := match d with
  | 4 => fwdM L w false a2 a3
  | 5 => fwdM L w true a2 a3
  | 6 => delM L a2 a3
  | 7 => resM L a2
  | 9 => runM L w a2
  | _ => linkM L a2
theorem intV_get {v : RWire.Value} {a b : Nat} (h : isIntV v a b = true) : ∃ n : Nat, v = .int n ∧ a ≤ n ∧ n ≤ b ∧ intOfV v = n := by
  cases v with
  | int i =>
    have hi : (decide ((a : Int) ≤ i) && decide (i ≤ (b : Int))) = true := h
    rw [Bool.and_eq_true, decide_eq_true_iff, decide_eq_true_iff] at hi
    obtain ⟨n, rfl⟩ : ∃ n : Nat, i = n := ⟨i.toNat, by omega⟩
    exact ⟨n, rfl, by omega, by omega, by simp [intOfV]⟩
  | _ => cases h
theorem numM_no {α : Type} {v : RWire.Value} {name : Str} {a b : Nat} {f : Nat → Except (Int × Str) α} (h : isIntV v a b = false) : numM v name a b f = .error (1, numMsg name a b) := if_neg (by rw [h]; exact Bool.false_ne_true)
theorem numM_yes {α : Type} {v : RWire.Value} {name : Str} {a b n : Nat} {f : Nat → Except (Int × Str) α} (h : v = .int n) (h1 : a ≤ n) (h2 : n ≤ b) : numM v name a b f = f n := by
  subst h
  have hi : isIntV (.int n) a b = true := by
    show (decide ((a : Int) ≤ n) && decide ((n : Int) ≤ b)) = true
    rw [Bool.and_eq_true, decide_eq_true_iff, decide_eq_true_iff]
    omega
  unfold numM
  rw [if_pos hi]
  show f (Int.toNat n) = f n
  rw [Int.toNat_natCast]
def outM (K : PySem.W.Frag) (A : Adr) (ρ : Gh) (H : Hp) (γ : Cid) (p : Addr) (w : Nat) (Q : VK) (E : XK) : MRes → Prop
  | .error (o, z) => RfE K A H o z E
  | .ok (v, L') => ∀ ρ' H' x, Stp (cS γ) ρ ρ' H H' → CircAt K A ρ' H' γ p w L' → VR K H' v x → Q x H'
theorem termM_none {L : List ML} {w d : Nat} {a2 a3 a4 : RWire.Value} (h : sideV a2 = none) : termM L w d a2 a3 a4 = .error (1, sideMsg "end") := by
  have e : ∀ {α : Type} (f : Bool → Except (Int × Str) α), sideM a2 "end" f = .error (1, sideMsg "end") := fun f => by
    unfold sideM
    rw [h]
  unfold termM
  split <;> exact e _
theorem more_any (v : RWire.Value) : ([PyData.tuple [.int 3], .tuple [.int 2]].any fun z => PyData.eqv z (dV v)) = (moreV v).isSome := by
  cases v with
  | bool b => cases b <;> simp [dV, PyData.eqv, PyData.eqvAll, moreV]
  | _ => simp [dV, PyData.eqv, PyData.eqvAll, moreV]
theorem more_true (v : RWire.Value) : PyData.eqv (dV v) (.tuple [.int 3]) = decide (moreV v = some true) := by
  cases v with
  | bool b => cases b <;> simp [dV, PyData.eqv, PyData.eqvAll, moreV]
  | _ => simp [dV, PyData.eqv, PyData.eqvAll, moreV]
def spOctet (K : PySem.W.Frag) (A : Adr) : Sp := fun vs H Q E => ∃ (x : V) (v : RWire.Value), vs = [x] ∧ VR K H v x ∧ (∀ n : Nat, v = .int n → n ≤ 255 → Q (.int n) H) ∧ (isIntV v (0 : Nat) (255 : Nat) = false → RfE K A H 1 (numMsg "value" 0 255) E)
/-- the arguments of a call -/
structure Given (K : PySem.W.Frag) (H : Hp) (g : Addr) (xs : List V) (a : Nat → RWire.Value) : Prop where
  l : SqL K H g xs
  v : ∀ i, i < 5 → ∃ x, xs[i]? = some x ∧ VR K H (a i) x
theorem Given.same {K : PySem.W.Frag} {H H' : Hp} {g : Addr} {xs : List V} {a : Nat → RWire.Value} (h : Given K H g xs a) (s : Same H H') : Given K H' g xs a := ⟨s.seq h.l, fun i hi => by
  obtain ⟨x, e, r⟩ := h.v i hi
  exact ⟨x, e, s.vr r⟩⟩
def spOnTerm (K : PySem.W.Frag) (A : Adr) : Sp := fun vs H Q E => ∃ (ρ : Gh) (γ : Cid) (p : Addr) (w : Nat) (L : List ML) (n d : Nat) (g : Addr) (xs : List V) (a : Nat → RWire.Value), vs = [.ref p, .int d, .ref g] ∧ Trk ρ H ∧ CircAt K A ρ H γ p w L ∧ 0 < L.length ∧ CBd n L ∧ n < 14000000 ∧
  Given K H g xs a ∧ (d < 4 ∨ (10 ≤ d ∧ d ≤ 12)) ∧ outM K A ρ H γ p w Q E (termM L w d (a 2) (a 3) (a 4))
section
variable {P : Program} {w : World} {K : PySem.W.Frag} {mg : Str → Option Value} {base : Heap} {A : Adr}
theorem ok_octet_of (T : Txt K mg A) : Ok P w K mg base (L2N.CX P w) 5 A.f_octet_of p_octet_of (spOctet K A) := by
  have G := ok_number_of (P := P) (w := w) (base := base) T
  refine okX_of T.F_octet_of sc_octet_of (fun vs H Q E h => ?_) (fun cdv A' outer s H vs Q E hr h => ?_)
  · obtain ⟨x, v, rfl, _⟩ := h
    rfl
  · obtain ⟨x, v, rfl, hv, q1, q2⟩ := h
    obtain ⟨uM, hM, rM⟩ := T.v_MOST_VALUE
    refine ⟨_, pss_one (ps_ret (fn_callX G T.g_number_of hr (L2N.takes_of rfl rfl rfl rfl) (fun _ _ _ _ h => h) (pa_cons (pv 0) (pa_cons pe_str (pa_cons pe_int (pa_cons (pe_glob rfl hM rM) pa_nil)))))), ?_⟩
    exact ⟨_, rfl, x, v, "value", 0, 255, rfl, hv, by decide +kernel, by decide, by decide, fun n h1 _ h3 => q1 n h1 h3, q2⟩
theorem ok_on_terminal (T : Txt K mg A) : Ok P w K mg base (L2N.CX P w) 6 A.f_on_terminal p_on_terminal (spOnTerm K A) := by
  have Gs := ok_side_of (P := P) (w := w) (base := base) T
  have Go := ok_octet_of (P := P) (w := w) (base := base) T
  have Gw := ok_wrong_kind (P := P) (w := w) (base := base) T
  have Gd := ok_C_send (P := P) (w := w) (base := base) T
  have Gp := ok_told_packet (P := P) (w := w) (base := base) T
  have Gr := ok_C_read (P := P) (w := w) (base := base) T
  have Gt := ok_C_terminal (P := P) (w := w) (base := base) T
  have Gm := ok_told_messages (P := P) (w := w) (base := base) T
  have Gl := ok_told_log (P := P) (w := w) (base := base) T
  refine okX_of T.F_on_terminal sc_on_terminal (fun vs H Q E h => ?_) (fun cdv A' outer s H vs Q E hr h => ?_)
  · obtain ⟨ρ, γ, p, w, L, n, d, g, xs, a, rfl, _⟩ := h
    rfl
  · obtain ⟨ρ, γ, p, w', L, n, d, g, xs, a, rfl, ht, ⟨x, c⟩, h0, hbd, hn, hg, hd, q⟩ := h
    refine ⟨_, pss_cons (ps_set (i := 3) sc_on_terminal.nd rfl (Or.inl rfl) (fn_callX Gs T.g_side_of hr (L2N.takes_of rfl rfl rfl rfl) (fun _ _ _ _ h => h) (pa_cons (pe_ix ix_list (pv 2) pe_int (fun _ _ => rfl)) (pa_cons pe_str pa_nil))))
      (pss_cons (ps_if (PW.pt (pw_or (pt_cmpR op_eq (pv 1) pe_int (nomark _)) (pw_or1 (pt_cmpR op_eq (pv 1) pe_int (nomark _)))))
        (pss_cons (ps_set (i := 4) sc_on_terminal.nd rfl (Or.inl rfl) (fn_callX Go T.g_octet_of hr (L2N.takes_of rfl rfl rfl rfl) (fun _ _ _ _ h => h) (pa_cons (pe_ix ix_list (pv 2) pe_int (fun _ _ => rfl)) pa_nil)))
        (pss_cons (ps_if (pt_cmpR op_eq (pv 1) pe_int (nomark _))
          (pss_one (ps_expr (fn_callX Gw T.g_wrong_kind hr (L2N.takes_of rfl rfl rfl rfl) (fun _ _ _ _ h => h) (pa_cons (pe_cmpR (op_notInX hr.units) (pe_ix ix_list (pv 2) pe_int (fun _ _ => rfl)) (pe_tup (pa_cons (pe_glob (v := .ref A.t_TRUE) rfl T.v_TRUE rfl) (pa_cons (pe_glob (v := .ref A.t_FALSE) rfl T.v_FALSE rfl) pa_nil))) (by with_unfolding_all rfl)) (pa_cons pe_str pa_nil))))) pss_nil)
        (pss_cons (ps_expr (fn_methX Gd T.cl_C T.m_C_send hr (L2N.takes_of rfl rfl rfl rfl) (fun _ _ _ _ h => h) (pv 0) (pa_cons (pv 3) (pa_cons (pv 1) (pa_cons (pe_tup (pa_cons (pv 4) (pa_cons (pe_and (pe_cmpR op_eq (pv 1) pe_int (nomark _)) (pe_one (pe_cmpR (op_eqX hr.units) (pe_ix ix_list (pv 2) pe_int (fun _ _ => rfl)) (pe_glob (v := .ref A.t_TRUE) rfl T.v_TRUE rfl) (nomark _)))) pa_nil))) pa_nil)))))
        (pss_one (ps_ret (pe_glob (v := .ref A.t_NOTHING) rfl T.v_NOTHING rfl)))))) pss_nil)
      (pss_cons (ps_if (PW.pt (pw_or (pt_cmpR op_eq (pv 1) pe_int (nomark _)) (pw_or1 (pt_cmpR op_eq (pv 1) pe_int (nomark _)))))
        (pss_one (ps_ret (fn_call Gp T.g_told_packet hr (pa_cons (fn_meth Gr T.cl_C T.m_C_read hr (pv 0) (pa_cons (pv 3) (pa_cons (pe_op op_sub (pv 1) pe_int) pa_nil))) pa_nil)))) pss_nil)
      (pss_cons (ps_set (i := 5) sc_on_terminal.nd rfl (Or.inl rfl) (pe_ix ix_list (pe_fld (fn_meth Gt T.cl_C T.m_C_terminal hr (pv 0) (pa_cons (pv 3) pa_nil)) rfl) (pv 3) (fun _ _ => rfl)))
      (pss_one (ps_ret (pe_ifExp (pt_cmpR op_eq (pv 1) pe_int (nomark _)) (fn_call Gm T.g_told_messages hr (pa_cons (pv 5) pa_nil)) (fn_call Gl T.g_told_log hr (pa_cons (pv 5) (pa_cons (pe_op op_sub (pv 1) pe_int) pa_nil))))))))), ?_⟩
    obtain ⟨x2, e2, v2⟩ := hg.v 2 (by decide)
    obtain ⟨x3, e3, v3⟩ := hg.v 3 (by decide)
    obtain ⟨x4, e4, v4⟩ := hg.v 4 (by decide)
    refine ⟨_, rfl, g, xs, 2, x2, rfl, rfl, hg.l, atI_nat e2, x2, a 2, "end", rfl, v2, by decide +kernel, ?_⟩
    cases hs : sideV (a 2) with
    | none =>
      rw [termM_none hs] at q
      exact q
    | some sd =>
      intro H1 s1
      have c1 := c.same ht s1
      have ht1 := ht.same s1
      have g1 := hg.same s1
      have hlt := term_lt (c := L) sd h0
      obtain ⟨al, hal, hlk, _⟩ := c1.at hlt
      obtain ⟨y, hy⟩ := id hlk
      have ste : Stp (cS γ) ρ ρ H H1 := Stp.same ht s1
      have hc1 : CircAt K A ρ H1 γ p w' L := ⟨x, c1⟩
      have tell : ∀ (v : RWire.Value) (H2 : Hp) (z : V), outM K A ρ H γ p w' Q E (.ok (v, L)) → Same H1 H2 → VR K H2 v z → Q z H2 := fun v H2 z q s2 hz => q ρ H2 z (Stp.same ht (s1.trans s2)) ⟨x, c1.same ht1 s2⟩ hz
      match d, hd with
      | 0, _ =>
        have q : outM K A ρ H γ p w' Q E (sendM L w' (a 2) (a 3) (a 4)) := q
        unfold sendM sideM at q
        rw [hs] at q
        have q : outM K A ρ H γ p w' Q E (numM (a 3) "value" 0 255 fun n => match moreV (a 4) with
          | none => .error (1, moreMsg)
          | some b => refM (whyS L sd false w') (.ok (.nothing, sendC L sd false ⟨n, b⟩))) := q
        refine ⟨_, rfl, rfl, _, rfl, ?_⟩
        refine if_yes rfl ?_
        refine if_yes rfl ?_
        refine ⟨_, rfl, g, xs, 3, x3, rfl, rfl, g1.l, atI_nat e3, x3, a 3, rfl, s1.vr v3, fun m em hm => ?_, fun hbad => ?_⟩
        · rw [numM_yes em (Nat.zero_le _) hm] at q
          refine ⟨_, rfl, rfl, _, rfl, ?_⟩
          refine if_yes rfl ?_
          refine ⟨_, rfl, g, xs, 4, x4, rfl, rfl, g1.l, atI_nat e4, two_le, fun t1 ht1' => ?_⟩
          have s2 : Same H1 (upd H1 t1 (.tup [.ref A.t_TRUE, .ref A.t_FALSE])) := Same.new ht1'
          have s12 := s1.trans s2
          refine ⟨dV (a 4), [.tuple [.int 3], .tuple [.int 2]], dp_V _ _ (s12.vr v4), .tup (.of upd_same) (.cons (.tup (T.w_TRUE.at _) (.cons (.int _) .nil)) (.cons (.tup (T.w_FALSE.at _) (.cons (.int _) .nil)) .nil)), lay_V _, rfl, (by decide), ?_⟩
          rw [more_any]
          refine ⟨_, moreMsg, rfl, fun hb => ?_, fun hb => ?_⟩
          · cases hm4 : moreV (a 4) with
            | none => rw [hm4] at hb; cases hb
            | some b =>
              rw [hm4] at q
              have q : outM K A ρ H γ p w' Q E (refM (whyS L sd false w') (.ok (.nothing, sendC L sd false ⟨m, b⟩))) := q
              have c2 := c1.same ht1 s2
              refine ⟨_, rfl, p, x.dx, _, rfl, c2.o, circF_no (by decide +kernel), _, rfl, _, rfl, _, rfl, ?_⟩
              refine ⟨_, rfl, rfl, _, rfl, ?_⟩
              refine if_yes rfl ?_
              refine ⟨_, rfl, g, xs, 4, x4, rfl, rfl, (g1.same s2).l, atI_nat e4, dV (a 4), .tuple [.int 3], dp_V _ _ (s12.vr v4), .tup (T.w_TRUE.at _) (.cons (.int _) .nil), lay_V _, rfl, (by decide), ?_⟩
              rw [more_true, hm4]
              have eb : decide (some b = some true) = b := by cases b <;> rfl
              rw [eb]
              refine ⟨two_le, fun t2 ht2 => ?_⟩
              have s3 : Same _ (upd (upd H1 t1 (.tup [.ref A.t_TRUE, .ref A.t_FALSE])) t2 (.tup [.int (m : Nat), .bl b])) := Same.new (o := .tup [.int (m : Nat), .bl b]) ht2
              have s13 := s12.trans s3
              refine ⟨ρ, γ, p, w', L, sd, false, ⟨m, b⟩, .ref t2, n, rfl, ht.same s13, ⟨x, c.same ht s13⟩, h0, ⟨t2, rfl, .of upd_same⟩, hbd, hn, ?_⟩
              cases hw : whyS L sd false w' with
              | some r =>
                rw [hw] at q
                exact RfE.same q s13
              | none =>
                rw [hw] at q
                intro ρ' H' st hc
                refine q ρ' H' _ ((Stp.same ht s13).trans st) hc ?_
                unfold VR
                exact ⟨_, rfl, T.w_NOTHING.at _⟩
          · cases hm4 : moreV (a 4) with
            | some b => rw [hm4] at hb; cases hb
            | none =>
              rw [hm4] at q
              exact RfE.same q s12
        · rw [numM_no hbad] at q
          exact RfE.same q s1
      | 1, _ =>
        have q : outM K A ρ H γ p w' Q E (urgeM L w' (a 2) (a 3)) := q
        unfold urgeM sideM at q
        rw [hs] at q
        have q : outM K A ρ H γ p w' Q E (numM (a 3) "value" 0 255 fun n => refM (whyS L sd true w') (.ok (.nothing, sendC L sd true ⟨n, false⟩))) := q
        refine ⟨_, rfl, rfl, _, rfl, ?_⟩
        refine if_no rfl ?_
        refine ⟨_, rfl, rfl, _, rfl, ?_⟩
        refine if_yes rfl ?_
        refine ⟨_, rfl, g, xs, 3, x3, rfl, rfl, g1.l, atI_nat e3, x3, a 3, rfl, s1.vr v3, fun m em hm => ?_, fun hbad => ?_⟩
        · rw [numM_yes em (Nat.zero_le _) hm] at q
          refine ⟨_, rfl, rfl, _, rfl, ?_⟩
          refine if_no rfl ?_
          refine ⟨_, rfl, p, x.dx, _, rfl, c1.o, circF_no (by decide +kernel), _, rfl, _, rfl, _, rfl, ?_⟩
          refine ⟨_, rfl, rfl, _, rfl, ?_⟩
          refine if_no rfl ?_
          refine ⟨two_le, fun t2 ht2 => ?_⟩
          have s3 : Same H1 (upd H1 t2 (.tup [.int (m : Nat), .bl false])) := Same.new ht2
          have s13 := s1.trans s3
          refine ⟨ρ, γ, p, w', L, sd, true, ⟨m, false⟩, .ref t2, n, rfl, ht.same s13, ⟨x, c.same ht s13⟩, h0, ⟨t2, rfl, .of upd_same⟩, hbd, hn, ?_⟩
          cases hw : whyS L sd true w' with
          | some r =>
            rw [hw] at q
            exact RfE.same q s13
          | none =>
            rw [hw] at q
            intro ρ' H' st hc
            refine q ρ' H' _ ((Stp.same ht s13).trans st) hc ?_
            unfold VR
            exact ⟨_, rfl, T.w_NOTHING.at _⟩
        · rw [numM_no hbad] at q
          exact RfE.same q s1
      | 2, _ =>
        have q : outM K A ρ H γ p w' Q E (readM L false (a 2)) := q
        unfold readM sideM at q
        rw [hs] at q
        have q : outM K A ρ H γ p w' Q E (match boxC L sd false with | [] => .ok (.null, L) | p :: _ => .ok (vPk p, readC L sd false)) := q
        refine ⟨_, rfl, rfl, _, rfl, ?_⟩
        refine if_no rfl ?_
        refine ⟨_, rfl, rfl, _, rfl, ?_⟩
        refine if_no rfl ?_
        refine ⟨_, rfl, rfl, _, rfl, ?_⟩
        refine if_yes rfl ?_
        refine if_yes rfl ?_
        refine ⟨_, rfl, p, x.dx, _, rfl, c1.o, circF_no (by decide +kernel), _, rfl, _, rfl, _, _, rfl, rfl, ρ, γ, p, w', L, sd, false, n, rfl, ht1, hc1, h0, hbd, hn, ?_⟩
        cases hbx : boxC L sd false with
        | nil =>
          rw [hbx] at q
          exact ⟨.non, none, rfl, rfl, fun H2 z s2 hz => tell _ H2 z q s2 hz⟩
        | cons pk r =>
          rw [hbx] at q
          intro ρ' H' z st hc hp
          exact ⟨z, some pk, rfl, hp, fun H2 z2 s2 hz => q ρ' H2 z2 ((ste.trans st).trans (Stp.same st.trk s2)) (hc.stp (S := fun _ => False) (Stp.same st.trk s2) fun _ _ f => f) hz⟩
      | 3, _ =>
        have q : outM K A ρ H γ p w' Q E (readM L true (a 2)) := q
        unfold readM sideM at q
        rw [hs] at q
        have q : outM K A ρ H γ p w' Q E (match boxC L sd true with | [] => .ok (.null, L) | p :: _ => .ok (vPk p, readC L sd true)) := q
        refine ⟨_, rfl, rfl, _, rfl, ?_⟩
        refine if_no rfl ?_
        refine ⟨_, rfl, rfl, _, rfl, ?_⟩
        refine if_no rfl ?_
        refine ⟨_, rfl, rfl, _, rfl, ?_⟩
        refine if_no rfl ?_
        refine ⟨_, rfl, rfl, _, rfl, ?_⟩
        refine if_yes rfl ?_
        refine ⟨_, rfl, p, x.dx, _, rfl, c1.o, circF_no (by decide +kernel), _, rfl, _, rfl, _, _, rfl, rfl, ρ, γ, p, w', L, sd, true, n, rfl, ht1, hc1, h0, hbd, hn, ?_⟩
        cases hbx : boxC L sd true with
        | nil =>
          rw [hbx] at q
          exact ⟨.non, none, rfl, rfl, fun H2 z s2 hz => tell _ H2 z q s2 hz⟩
        | cons pk r =>
          rw [hbx] at q
          intro ρ' H' z st hc hp
          exact ⟨z, some pk, rfl, hp, fun H2 z2 s2 hz => q ρ' H2 z2 ((ste.trans st).trans (Stp.same st.trk s2)) (hc.stp (S := fun _ => False) (Stp.same st.trk s2) fun _ _ f => f) hz⟩
      | 10, _ =>
        have q : outM K A ρ H γ p w' Q E (logM L false (a 2)) := q
        unfold logM sideM at q
        rw [hs] at q
        have q : outM K A ρ H γ p w' Q E (.ok (vLog ((at_ L (termOf L sd)).e sd) false, L)) := q
        refine ⟨_, rfl, rfl, _, rfl, if_no rfl ⟨_, rfl, rfl, _, rfl, if_no rfl ?_⟩⟩
        refine ⟨_, rfl, rfl, _, rfl, if_no rfl ⟨_, rfl, rfl, _, rfl, if_no rfl ?_⟩⟩
        refine ⟨_, rfl, p, x.dx, _, rfl, c1.o, circF_no (by decide +kernel), _, rfl, ρ, γ, p, w', L, x, sd, al, rfl, c1, hal, ?_⟩
        refine ⟨al, _, y.dx, _, _, rfl, hy.o.h, T.cl_L, T.a_L_ends, linkF_ends, _, rfl, y.ae, _, _, _, rfl, rfl, SqL.of hy.en.h, at2 (f := fun z => .ref (y.aE z)) sd, ?_⟩
        refine ⟨_, rfl, rfl, _, rfl, if_no rfl ?_⟩
        exact ⟨_, rfl, _, rfl, _, _, rfl, rfl, ρ, _, sd, false, y.aE sd, _, n, rfl, ht1, ⟨_, hy.e sd⟩, (hbd.at hlt).e sd, by omega, fun H2 z s2 hz => tell _ H2 z q s2 hz⟩
      | 11, _ =>
        have q : outM K A ρ H γ p w' Q E (logM L true (a 2)) := q
        unfold logM sideM at q
        rw [hs] at q
        have q : outM K A ρ H γ p w' Q E (.ok (vLog ((at_ L (termOf L sd)).e sd) true, L)) := q
        refine ⟨_, rfl, rfl, _, rfl, if_no rfl ⟨_, rfl, rfl, _, rfl, if_no rfl ?_⟩⟩
        refine ⟨_, rfl, rfl, _, rfl, if_no rfl ⟨_, rfl, rfl, _, rfl, if_no rfl ?_⟩⟩
        refine ⟨_, rfl, p, x.dx, _, rfl, c1.o, circF_no (by decide +kernel), _, rfl, ρ, γ, p, w', L, x, sd, al, rfl, c1, hal, ?_⟩
        refine ⟨al, _, y.dx, _, _, rfl, hy.o.h, T.cl_L, T.a_L_ends, linkF_ends, _, rfl, y.ae, _, _, _, rfl, rfl, SqL.of hy.en.h, at2 (f := fun z => .ref (y.aE z)) sd, ?_⟩
        refine ⟨_, rfl, rfl, _, rfl, if_no rfl ?_⟩
        exact ⟨_, rfl, _, rfl, _, _, rfl, rfl, ρ, _, sd, true, y.aE sd, _, n, rfl, ht1, ⟨_, hy.e sd⟩, (hbd.at hlt).e sd, by omega, fun H2 z s2 hz => tell _ H2 z q s2 hz⟩
      | 12, _ =>
        have q : outM K A ρ H γ p w' Q E (msgsM L (a 2)) := q
        unfold msgsM sideM at q
        rw [hs] at q
        have q : outM K A ρ H γ p w' Q E (.ok (vMsgs ((at_ L (termOf L sd)).e sd), L)) := q
        refine ⟨_, rfl, rfl, _, rfl, if_no rfl ⟨_, rfl, rfl, _, rfl, if_no rfl ?_⟩⟩
        refine ⟨_, rfl, rfl, _, rfl, if_no rfl ⟨_, rfl, rfl, _, rfl, if_no rfl ?_⟩⟩
        refine ⟨_, rfl, p, x.dx, _, rfl, c1.o, circF_no (by decide +kernel), _, rfl, ρ, γ, p, w', L, x, sd, al, rfl, c1, hal, ?_⟩
        refine ⟨al, _, y.dx, _, _, rfl, hy.o.h, T.cl_L, T.a_L_ends, linkF_ends, _, rfl, y.ae, _, _, _, rfl, rfl, SqL.of hy.en.h, at2 (f := fun z => .ref (y.aE z)) sd, ?_⟩
        refine ⟨_, rfl, rfl, _, rfl, if_yes rfl ?_⟩
        exact ⟨_, rfl, ρ, _, sd, y.aE sd, _, n, rfl, ht1, ⟨_, hy.e sd⟩, (hbd.at hlt).e sd, by omega, fun H2 z s2 hz => tell _ H2 z q s2 hz⟩
      | 4, h => exact absurd h (by omega)
      | 5, h => exact absurd h (by omega)
      | 6, h => exact absurd h (by omega)
      | 7, h => exact absurd h (by omega)
      | 8, h => exact absurd h (by omega)
      | 9, h => exact absurd h (by omega)
      | j + 13, h => exact absurd h (by omega)
end
end Rl
end
section
set_option Elab.async false
set_option linter.all false
set_option maxRecDepth 100000
set_option maxHeartbeats 4000000
/-! RlD2: on_circuit. -/
namespace Rl
open PySem PySem.Spec PyProof.Rows L2

def spOnCirc (K : PySem.W.Frag) (A : Adr) : Sp := fun vs H Q E => ∃ (ρ : Gh) (γ : Cid) (p : Addr) (w : Nat) (L : List ML) (n d : Nat) (g : Addr) (xs : List V) (a : Nat → RWire.Value), vs = [.ref p, .int d, .ref g] ∧ Trk ρ H ∧ CircAt K A ρ H γ p w L ∧ 0 < L.length ∧ L.length ≤ 100 ∧ CBd n L ∧ 1 ≤ n ∧ n < 12000000 ∧
  Given K H g xs a ∧ (d = 4 ∨ d = 5 ∨ d = 6 ∨ d = 7 ∨ d = 9 ∨ d = 13) ∧ outM K A ρ H γ p w Q E (circM L w d (a 2) (a 3))
theorem runC_succ {w j : Nat} {L : List ML} : runC w (j + 1) L = match evC L w with
    | some e => ((runC w j (doC L e)).1 + 1, (runC w j (doC L e)).2)
    | none => (0, L) := rfl
section
variable {P : Program} {w : World} {K : PySem.W.Frag} {mg : Str → Option Value} {base : Heap} {A : Adr}
theorem ok_on_circuit (T : Txt K mg A) : Ok P w K mg base (L2N.CX P w) 7 A.f_on_circuit p_on_circuit (spOnCirc K A) := by
  have Gn := ok_number_of (P := P) (w := w) (base := base) T
  have Gs := ok_side_of (P := P) (w := w) (base := base) T
  have Gf := ok_C_forward (P := P) (w := w) (base := base) T
  have Gd := ok_C_deliver (P := P) (w := w) (base := base) T
  have Gr := ok_C_reset (P := P) (w := w) (base := base) T
  have Gt := ok_C_step (P := P) (w := w) (base := base) T
  have Gl := ok_told_link (P := P) (w := w) (base := base) T
  have Gx := ok_text (P := P) (w := w) (base := base) T
  have Gi := ok_integer (P := P) (w := w) (base := base) T
  refine okX_of T.F_on_circuit sc_on_circuit (fun vs H Q E h => ?_) (fun cdv A' outer s H vs Q E hr h => ?_)
  · obtain ⟨ρ, γ, p, w, L, n, d, g, xs, a, rfl, _⟩ := h
    rfl
  · obtain ⟨ρ, γ, p, w', L, n, d, g, xs, a, rfl, ht, ⟨x, c⟩, h0, hmost, hbd, hn1, hn, hg, hd, q⟩ := h
    obtain ⟨uM, hM, rM⟩ := T.v_MOST_RUN
    refine ⟨_, pss_cons (ps_set (i := 3) sc_on_circuit.nd rfl (Or.inl rfl) (pe_lenOf T.b_len (pe_fld (pv 0) rfl)))
      (pss_cons (ps_if (PW.pt (pw_or (pt_cmpR op_eq (pv 1) pe_int (nomark _)) (pw_or1 (pt_cmpR op_eq (pv 1) pe_int (nomark _)))))
        (pss_cons (ps_set (i := 4) sc_on_circuit.nd rfl (Or.inl rfl) (fn_callX Gn T.g_number_of hr (L2N.takes_of rfl rfl rfl rfl) (fun _ _ _ _ h => h) (pa_cons (pe_ix ix_list (pv 2) pe_int (fun _ _ => rfl)) (pa_cons pe_str (pa_cons pe_int (pa_cons (pe_op op_sub (pv 3) pe_int) pa_nil))))))
        (pss_cons (ps_expr (fn_methX Gf T.cl_C T.m_C_forward hr (L2N.takes_of rfl rfl rfl rfl) (fun _ _ _ _ h => h) (pv 0) (pa_cons (pv 4) (pa_cons (fn_callX Gs T.g_side_of hr (L2N.takes_of rfl rfl rfl rfl) (fun _ _ _ _ h => h) (pa_cons (pe_ix ix_list (pv 2) pe_int (fun _ _ => rfl)) (pa_cons pe_str pa_nil))) (pa_cons (pe_op op_sub (pv 1) pe_int) pa_nil)))))
        (pss_one (ps_ret (pe_glob (v := .ref A.t_NOTHING) rfl T.v_NOTHING rfl))))) pss_nil)
      (pss_cons (ps_if (pt_cmpR op_eq (pv 1) pe_int (nomark _))
        (pss_cons (ps_set (i := 5) sc_on_circuit.nd rfl (Or.inl rfl) (fn_callX Gn T.g_number_of hr (L2N.takes_of rfl rfl rfl rfl) (fun _ _ _ _ h => h) (pa_cons (pe_ix ix_list (pv 2) pe_int (fun _ _ => rfl)) (pa_cons pe_str (pa_cons pe_int (pa_cons (pe_op op_sub (pv 3) pe_int) pa_nil))))))
        (pss_cons (ps_set (i := 6) sc_on_circuit.nd rfl (Or.inl rfl) (fn_meth Gd T.cl_C T.m_C_deliver hr (pv 0) (pa_cons (pv 5) (pa_cons (fn_callX Gs T.g_side_of hr (L2N.takes_of rfl rfl rfl rfl) (fun _ _ _ _ h => h) (pa_cons (pe_ix ix_list (pv 2) pe_int (fun _ _ => rfl)) (pa_cons pe_str pa_nil))) pa_nil))))
        (pss_one (ps_ret (pe_ifExp (pt_cmpR op_isN (pv 6) pe_non (nomark _)) (pe_glob (v := .ref A.t_NULL) rfl T.v_NULL rfl) (fn_call Gx T.g_text hr (pa_cons (pv 6) pa_nil))))))) pss_nil)
      (pss_cons (ps_if (pt_cmpR op_eq (pv 1) pe_int (nomark _))
        (pss_cons (ps_expr (fn_meth Gr T.cl_C T.m_C_reset hr (pv 0) (pa_cons (fn_callX Gn T.g_number_of hr (L2N.takes_of rfl rfl rfl rfl) (fun _ _ _ _ h => h) (pa_cons (pe_ix ix_list (pv 2) pe_int (fun _ _ => rfl)) (pa_cons pe_str (pa_cons pe_int (pa_cons (pv 3) pa_nil))))) pa_nil)))
        (pss_one (ps_ret (pe_glob (v := .ref A.t_NOTHING) rfl T.v_NOTHING rfl)))) pss_nil)
      (pss_cons (ps_if (pt_cmpR op_eq (pv 1) pe_int (nomark _))
        (pss_cons (ps_set (i := 7) sc_on_circuit.nd rfl (Or.inl rfl) (fn_callX Gn T.g_number_of hr (L2N.takes_of rfl rfl rfl rfl) (fun _ _ _ _ h => h) (pa_cons (pe_ix ix_list (pv 2) pe_int (fun _ _ => rfl)) (pa_cons pe_str (pa_cons pe_int (pa_cons (pe_glob rfl hM rM) pa_nil))))))
        (pss_cons (ps_set (i := 8) sc_on_circuit.nd rfl (Or.inl rfl) pe_int)
        (pss_cons (ps_while (passes_of rfl) (PW.pt (pw_and (pt_cmpR op_lt (pv 8) (pv 7) (nomark _)) (pw_and1 (pt_cmpR op_notN (fn_meth0 Gt T.cl_C T.m_C_step hr (pv 0)) pe_non (nomark _)))))
          (pss_one (ps_aug (i := 8) sc_on_circuit.nd rfl (Or.inl rfl) pe_int ip_add)))
        (pss_one (ps_ret (fn_call Gi T.g_integer hr (pa_cons (pv 8) pa_nil))))))) pss_nil)
      (pss_one (ps_ret (fn_call Gl T.g_told_link hr (pa_cons (pe_ix ix_list (pe_fld (pv 0) rfl) (fn_callX Gn T.g_number_of hr (L2N.takes_of rfl rfl rfl rfl) (fun _ _ _ _ h => h) (pa_cons (pe_ix ix_list (pv 2) pe_int (fun _ _ => rfl)) (pa_cons pe_str (pa_cons pe_int (pa_cons (pe_op op_sub (pv 3) pe_int) pa_nil))))) (fun _ _ => rfl)) pa_nil)))))))), ?_⟩
    obtain ⟨x2, e2, v2⟩ := hg.v 2 (by decide)
    obtain ⟨x3, e3, v3⟩ := hg.v 3 (by decide)
    have hc : CircAt K A ρ H γ p w' L := ⟨x, c⟩
    have el : (L.length : Int) - 1 = ((L.length - 1 : Nat) : Int) := by omega
    have ek : ∀ (nm : Str) (k : Nat), x2 :: [V.str nm, V.int (k : Nat), V.int ((L.length : Int) - 1)] = [x2, V.str nm, V.int (k : Nat), V.int ((L.length - 1 : Nat) : Int)] := fun nm k => by rw [el]
    have nothing : ∀ H2, VR K H2 .nothing (.ref A.t_NOTHING) := fun H2 => by
      unfold VR
      exact ⟨_, rfl, T.w_NOTHING.at _⟩
    refine ⟨_, rfl, p, _, x.dx, _, _, rfl, c.o, T.cl_C, T.a_C_links, circF_links, _, _, rfl, .inl (SqL.of c.l), ?_⟩
    rw [List.length_map, c.n]
    rcases hd with rfl | rfl | rfl | rfl | rfl | rfl
    · -- forward
      have q : outM K A ρ H γ p w' Q E (fwdM L w' false (a 2) (a 3)) := q
      unfold fwdM at q
      refine ⟨_, rfl, rfl, _, rfl, if_yes rfl ?_⟩
      refine if_yes rfl ?_
      refine ⟨_, rfl, g, xs, 2, x2, rfl, rfl, hg.l, atI_nat e2, _, rfl, _, _, rfl, rfl, x2, a 2, "node", 1, L.length - 1, ek _ 1, v2, by decide +kernel, by decide, by omega, fun m em h1 h2 => ?_, fun hbad => ?_⟩
      · rw [numM_yes em h1 h2] at q
        unfold sideM at q
        refine ⟨_, rfl, p, x.dx, _, rfl, c.o, circF_no (by decide +kernel), _, rfl, _, rfl, g, xs, 3, x3, rfl, rfl, hg.l, atI_nat e3, x3, a 3, "direction", rfl, v3, by decide +kernel, ?_⟩
        cases hs : sideV (a 3) with
        | none =>
          rw [hs] at q
          exact q
        | some dd =>
          rw [hs] at q
          have q : outM K A ρ H γ p w' Q E (refM (whyC L m dd false w') (.ok (.nothing, fwdC L m dd false))) := q
          intro H1 s1
          refine ⟨_, rfl, _, _, rfl, rfl, ρ, γ, p, w', L, m, dd, false, n, rfl, ht.same s1, ⟨x, c.same ht s1⟩, h1, by omega, hbd, by omega, ?_⟩
          cases hw : whyC L m dd false w' with
          | some r =>
            rw [hw] at q
            exact RfE.same q s1
          | none =>
            rw [hw] at q
            intro ρ' H' st hc'
            exact q ρ' H' _ ((Stp.same ht s1).trans st) hc' (nothing _)
      · rw [numM_no hbad] at q
        exact q
    · have q : outM K A ρ H γ p w' Q E (fwdM L w' true (a 2) (a 3)) := q
      unfold fwdM at q
      refine ⟨_, rfl, rfl, _, rfl, if_no rfl ?_⟩
      refine ⟨_, rfl, rfl, _, rfl, if_yes rfl ?_⟩
      refine ⟨_, rfl, g, xs, 2, x2, rfl, rfl, hg.l, atI_nat e2, _, rfl, _, _, rfl, rfl, x2, a 2, "node", 1, L.length - 1, ek _ 1, v2, by decide +kernel, by decide, by omega, fun m em h1 h2 => ?_, fun hbad => ?_⟩
      · rw [numM_yes em h1 h2] at q
        unfold sideM at q
        refine ⟨_, rfl, p, x.dx, _, rfl, c.o, circF_no (by decide +kernel), _, rfl, _, rfl, g, xs, 3, x3, rfl, rfl, hg.l, atI_nat e3, x3, a 3, "direction", rfl, v3, by decide +kernel, ?_⟩
        cases hs : sideV (a 3) with
        | none =>
          rw [hs] at q
          exact q
        | some dd =>
          rw [hs] at q
          have q : outM K A ρ H γ p w' Q E (refM (whyC L m dd true w') (.ok (.nothing, fwdC L m dd true))) := q
          intro H1 s1
          refine ⟨_, rfl, _, _, rfl, rfl, ρ, γ, p, w', L, m, dd, true, n, rfl, ht.same s1, ⟨x, c.same ht s1⟩, h1, by omega, hbd, by omega, ?_⟩
          cases hw : whyC L m dd true w' with
          | some r =>
            rw [hw] at q
            exact RfE.same q s1
          | none =>
            rw [hw] at q
            intro ρ' H' st hc'
            exact q ρ' H' _ ((Stp.same ht s1).trans st) hc' (nothing _)
      · rw [numM_no hbad] at q
        exact q
    · -- deliver
      have q : outM K A ρ H γ p w' Q E (delM L (a 2) (a 3)) := q
      unfold delM at q
      refine ⟨_, rfl, rfl, _, rfl, if_no rfl ⟨_, rfl, rfl, _, rfl, if_no rfl ?_⟩⟩
      refine ⟨_, rfl, rfl, _, rfl, if_yes rfl ?_⟩
      refine ⟨_, rfl, g, xs, 2, x2, rfl, rfl, hg.l, atI_nat e2, _, rfl, _, _, rfl, rfl, x2, a 2, "link", 0, L.length - 1, ek _ 0, v2, by decide +kernel, by decide, by omega, fun m em h1 h2 => ?_, fun hbad => ?_⟩
      · rw [numM_yes em h1 h2] at q
        unfold sideM at q
        refine ⟨_, rfl, p, x.dx, _, rfl, c.o, circF_no (by decide +kernel), _, rfl, _, rfl, g, xs, 3, x3, rfl, rfl, hg.l, atI_nat e3, x3, a 3, "direction", rfl, v3, by decide +kernel, ?_⟩
        cases hs : sideV (a 3) with
        | none =>
          rw [hs] at q
          exact q
        | some dd =>
          rw [hs] at q
          have q : outM K A ρ H γ p w' Q E (match headC L m dd with | none => .ok (.null, L) | some i => .ok (.text (oN (kindS i)), deliverC L m dd)) := q
          intro H1 s1
          refine ⟨ρ, γ, p, w', L, m, dd, n, rfl, ht.same s1, ⟨x, c.same ht s1⟩, by omega, hbd, by omega, ?_⟩
          cases hh : headC L m dd with
          | none =>
            rw [hh] at q
            refine ⟨_, rfl, rfl, _, rfl, if_yes rfl ?_⟩
            refine q ρ H1 _ (Stp.same ht s1) ⟨x, c.same ht s1⟩ ?_
            unfold VR
            exact ⟨_, rfl, T.w_NULL.at _⟩
          | some i =>
            rw [hh] at q
            intro ρ' H' st hc'
            refine ⟨_, rfl, rfl, _, rfl, if_no rfl ?_⟩
            exact ⟨_, rfl, kindS i, oN (kindS i), rfl, okN_l (kind_ok i), okN_c (kind_ok i), fun H3 z s3 hz => q ρ' H3 z (((Stp.same ht s1).trans st).trans (Stp.same st.trk s3)) (hc'.stp (S := fun _ => False) (Stp.same st.trk s3) fun _ _ f => f) hz⟩
      · rw [numM_no hbad] at q
        exact q
    · -- reset
      have q : outM K A ρ H γ p w' Q E (resM L (a 2)) := q
      unfold resM at q
      refine ⟨_, rfl, rfl, _, rfl, if_no rfl ⟨_, rfl, rfl, _, rfl, if_no rfl ?_⟩⟩
      refine ⟨_, rfl, rfl, _, rfl, if_no rfl ?_⟩
      refine ⟨_, rfl, rfl, _, rfl, if_yes rfl ?_⟩
      refine ⟨_, rfl, p, x.dx, _, rfl, c.o, circF_no (by decide +kernel), _, rfl, g, xs, 2, x2, rfl, rfl, hg.l, atI_nat e2, _, rfl, x2, a 2, "node", 0, L.length, rfl, v2, by decide +kernel, by decide, by omega, fun m em h1 h2 => ?_, fun hbad => ?_⟩
      · rw [numM_yes em h1 h2] at q
        refine ⟨ρ, γ, p, w', L, n, m, rfl, ht, hc, hbd, by omega, h2, fun ρ' H' st hc' => ?_⟩
        exact q ρ' H' _ st hc' (nothing _)
      · rw [numM_no hbad] at q
        exact q
    · -- run
      have q : outM K A ρ H γ p w' Q E (runM L w' (a 2)) := q
      unfold runM at q
      refine ⟨_, rfl, rfl, _, rfl, if_no rfl ⟨_, rfl, rfl, _, rfl, if_no rfl ?_⟩⟩
      refine ⟨_, rfl, rfl, _, rfl, if_no rfl ?_⟩
      refine ⟨_, rfl, rfl, _, rfl, if_no rfl ?_⟩
      refine ⟨_, rfl, rfl, _, rfl, if_yes rfl ?_⟩
      refine ⟨_, rfl, g, xs, 2, x2, rfl, rfl, hg.l, atI_nat e2, x2, a 2, "limit", 0, 1000, rfl, v2, by decide +kernel, by decide, by decide, fun l em h1 h2 => ?_, fun hbad => ?_⟩
      · rw [numM_yes em h1 h2] at q
        have q : ∀ ρ' H' z, Stp (cS γ) ρ ρ' H H' → CircAt K A ρ' H' γ p w' (runC w' l L).2 → VR K H' (.int ((runC w' l L).1 : Nat)) z → Q z H' := q
        refine ⟨fun m σ H' => ∃ (j : Nat) (Lj : List ML) (ρ' : Gh), m = l - j ∧ j ≤ l ∧ σ = [some (.ref p), some (.int 9), some (.ref g), some (.int (L.length : Nat)), none, none, none, some (.int (l : Nat)), some (.int (j : Nat))] ∧ Stp (cS γ) ρ ρ' H H' ∧ CircAt K A ρ' H' γ p w' Lj ∧ CBd (n + j) Lj ∧ Lj.length = L.length ∧
          (runC w' l L).1 = j + (runC w' (l - j) Lj).1 ∧ (runC w' l L).2 = (runC w' (l - j) Lj).2, ⟨l, 0, L, ρ, rfl, Nat.zero_le _, rfl, Stp.refl ht, hc, hbd, rfl, (Nat.zero_add _).symm, rfl⟩, ?_⟩
        rintro m σ H' ⟨j, Lj, ρ', rfl, hj, rfl, st, ⟨y, cy⟩, hbj, hlj, hr1, hr2⟩
        have done : ∀ (ρ2 : Gh) (H2 : Hp), Stp (cS γ) ρ ρ2 H H2 → CircAt K A ρ2 H2 γ p w' Lj → runC w' (l - j) Lj = (0, Lj) →
            tRet (tCall (spInteger K) [] E0 (tCons (tVar 8) tNil)) { nx := fun x H' => Q .non H', rt := Q } [some (.ref p), some (.int 9), some (.ref g), some (.int (L.length : Nat)), none, none, none, some (.int (l : Nat)), some (.int (j : Nat))] H2 := by
          intro ρ2 H2 s2 c2 hrun
          rw [hrun] at hr1 hr2
          refine ⟨_, rfl, (j : Nat), rfl, fun H3 z s3 hz => ?_⟩
          refine q ρ2 H3 z (s2.trans (Stp.same s2.trk s3)) ?_ ?_
          · rw [hr2]
            exact c2.stp (S := fun _ => False) (Stp.same s2.trk s3) fun _ _ f => f
          · rw [hr1]
            exact hz
        refine ⟨_, rfl, _, rfl, _, _, rfl, rfl, _, rfl, ?_⟩
        by_cases hlt : j < l
        · refine if_yes (decide_eq_true (by omega)) ?_
          obtain ⟨i, hi⟩ : ∃ i, l - j = i + 1 := ⟨l - j - 1, by omega⟩
          refine ⟨_, rfl, p, y.dx, _, rfl, cy.o, circF_no (by decide +kernel), ρ', γ, p, w', Lj, n + j, rfl, st.trk, ⟨y, cy⟩, hbj, by omega, by omega, fun ρ2 H2 v s2 c2 hv => ?_⟩
          refine ⟨rfl, _, rfl, ?_⟩
          cases he : evC Lj w' with
          | none =>
            rw [he] at hv
            have hv : v = .non := hv
            subst hv
            refine if_no rfl ?_
            rw [nextL_none he] at c2
            refine done ρ2 H2 (st.trans s2) c2 ?_
            rw [hi, runC_succ, he]
          | some e =>
            rw [he] at hv
            obtain ⟨t, rfl, _⟩ := hv
            rw [nextL_some he] at c2
            refine if_yes rfl ?_
            rw [hi, runC_succ, he] at hr1 hr2
            have ei : l - (j + 1) = i := by omega
            refine ⟨fun σ' H'' => ∃ (j' : Nat) (Lj : List ML) (ρ' : Gh), j' = j + 1 ∧ σ' = [some (.ref p), some (.int 9), some (.ref g), some (.int (L.length : Nat)), none, none, none, some (.int (l : Nat)), some (.int (j' : Nat))] ∧ Stp (cS γ) ρ ρ' H H'' ∧ CircAt K A ρ' H'' γ p w' Lj ∧ CBd (n + j') Lj ∧ Lj.length = L.length ∧
              (runC w' l L).1 = j' + (runC w' (l - j') Lj).1 ∧ (runC w' l L).2 = (runC w' (l - j') Lj).2, fun σ' H'' ⟨j', Lj', ρ'', ej, es, r1, r2, r3, r4, r5, r6⟩ => ⟨l - j', by omega, j', Lj', ρ'', rfl, by omega, es, r1, r2, r3, r4, r5, r6⟩, ?_⟩
            refine ⟨_, rfl, _, _, rfl, rfl, ?_⟩
            refine ⟨j + 1, doC Lj e, ρ2, rfl, rfl, st.trans s2, c2, hbj.do (by omega) e, by rw [doC_length, hlj], ?_, ?_⟩
            · rw [ei, hr1]
              show j + ((runC w' i (doC Lj e)).1 + 1) = j + 1 + (runC w' i (doC Lj e)).1
              omega
            · rw [ei, hr2]
        · refine if_no (decide_eq_false (by omega)) ?_
          refine if_no rfl ?_
          have e0 : l - j = 0 := by omega
          exact done ρ' H' st ⟨y, cy⟩ (by rw [e0]; rfl)
      · rw [numM_no hbad] at q
        exact q
    · -- link
      have q : outM K A ρ H γ p w' Q E (linkM L (a 2)) := q
      unfold linkM at q
      refine ⟨_, rfl, rfl, _, rfl, if_no rfl ⟨_, rfl, rfl, _, rfl, if_no rfl ?_⟩⟩
      refine ⟨_, rfl, rfl, _, rfl, if_no rfl ?_⟩
      refine ⟨_, rfl, rfl, _, rfl, if_no rfl ?_⟩
      refine ⟨_, rfl, rfl, _, rfl, if_no rfl ?_⟩
      refine ⟨_, rfl, p, _, x.dx, _, _, rfl, c.o, T.cl_C, T.a_C_links, circF_links, _, rfl, g, xs, 2, x2, rfl, rfl, hg.l, atI_nat e2, _, rfl, _, _, rfl, rfl, x2, a 2, "link", 0, L.length - 1, ek _ 0, v2, by decide +kernel, by decide, by omega, fun m em h1 h2 => ?_, fun hbad => ?_⟩
      · rw [numM_yes em h1 h2] at q
        have hm : m < L.length := by omega
        obtain ⟨al, hal, hlk, hat⟩ := c.at hm
        refine ⟨x.al, _, _, _, rfl, rfl, SqL.of c.l, hat, ρ, (γ.1, γ.2, m), al, at_ L m, n, rfl, ht, hlk, hbd.at hm, by omega, fun H1 z s1 hz => ?_⟩
        exact q ρ H1 z (Stp.same ht s1) ⟨x, c.same ht s1⟩ hz
      · rw [numM_no hbad] at q
        exact q
end
end Rl
end
section
set_option Elab.async false
set_option linter.all false
set_option maxRecDepth 100000
set_option maxHeartbeats 4000000
/-! RlD3: the making of a net; walks. -/
namespace Rl
open PySem PySem.Spec PyProof.Rows L2

def optMsg : Str := "options must be a record"
def optM : RWire.Value → Except (Int × Str) (Nat × Nat × Nat)
  | .record l => numM (memberV l (oN "nodes")) "nodes" 2 8 fun n => numM (memberV l (oN "circuits")) "circuits" 1 8 fun c => numM (memberV l (oN "window")) "window" 1 7 fun w => .ok (n, c, w)
  | _ => .error (1, optMsg)
def spCircs (K : PySem.W.Frag) (A : Adr) : Sp := fun vs H Q E => ∃ (ρ : Gh) (N : Nat) (x : V) (v : RWire.Value), vs = [x] ∧ Trk ρ H ∧ VR K H v x ∧
  match optM v with
  | .error (o, z) => RfE K A H o z E
  | .ok (n, c, w) => ∀ (ρ' : Gh) (H' : Hp) (D : Addr) (cs : List Addr), Stp (fun _ => False) ρ ρ' H H' → ρ' D = none → H' D = some (.lst (cs.map V.ref)) → cs.length = c → (∀ i a, cs[i]? = some a → CircAt K A ρ' H' (N, i) a w (List.replicate (n - 1) ML.fresh)) → Q (.ref D) H'
def nsW : List Str := ["circuit", "is_over"]
theorem ndW : nsW.Nodup := by decide +kernel
def walkF (c : Addr) (b : Bool) : List (Str × V) := nsW.zip [.ref c, .bl b]
theorem walkF_circuit {c : Addr} {b : Bool} : (walkF c b).lookup ("circuit" : Str) = some (.ref c) := fld_get ndW (i := 0) rfl rfl
theorem walkF_over {c : Addr} {b : Bool} : (walkF c b).lookup ("is_over" : Str) = some (.bl b) := fld_get ndW (i := 1) rfl rfl
theorem walkF_no {m : Str} (h : m ∉ nsW) {c : Addr} {b : Bool} : (walkF c b).lookup m = none := fld_no h
theorem walkF_new {c : Addr} {b : Bool} : putF "is_over" (.bl b) (putF "circuit" (.ref c) []) = walkF c b := by
  have e1 : putF ("circuit" : Str) (.ref c) [] = (["circuit"] : List Str).zip [V.ref c] := rfl
  rw [e1, fld_new (by decide +kernel) rfl]; rfl
theorem walkF_put {c : Addr} {b b' : Bool} : putF "is_over" (.bl b') (walkF c b) = walkF c b' := fld_put ndW (i := 1) rfl (by rfl)
def spWinit (A : Adr) : Sp := fun vs H Q _ => ∃ (a c dx : Addr), vs = [.ref a, .ref c] ∧ H a = some (.ins A.c_W dx []) ∧ ∀ H', H' a = some (.ins A.c_W dx (walkF c false)) → (∀ b, b ≠ a → H' b = H b) → Q .non H'
def spWtake (K : PySem.W.Frag) (A : Adr) : Sp := fun vs H Q _ => ∃ (ρ : Gh) (γ : Cid) (a dx cp : Addr) (b : Bool) (w : Nat) (L : List ML) (n : Nat), vs = [.ref a] ∧ H a = some (.ins A.c_W dx (walkF cp b)) ∧ ρ a = none ∧ Trk ρ H ∧ CircAt K A ρ H γ cp w L ∧ CBd n L ∧ 1 ≤ n ∧ n < 14000000 ∧ L.length ≤ 1000 ∧
  if b = true then Q .non (upd H a (.ins A.c_W dx (walkF cp true)))
  else ∀ ρ' H' v, Stp (cS γ) ρ ρ' H H' → CircAt K A ρ' H' γ cp w (nextL L w) → StepV H' L (evC L w) v → Q v (upd H' a (.ins A.c_W dx (walkF cp (evC L w).isNone)))
def vEv (L : List ML) (e : MEv) : RWire.Value := .record [(oN "what", .text (oN (whatS L e))), (oN "at", .int (evAt e : Nat)), (oN "direction", .text (oN (sText (evDir e))))]
/-- what a walk's next step tells, and whether it is over then -/
def walkV (b : Bool) (L : List ML) (w : Nat) : RWire.Value := if b = true then vStep .nothing true else match evC L w with
  | none => vStep .nothing true
  | some e => vStep (vEv L e) false
def walkE (b : Bool) (L : List ML) (w : Nat) : Bool := b || (evC L w).isNone
def walkL (b : Bool) (L : List ML) (w : Nat) : List ML := if b = true then L else nextL L w
def spOnWalk (K : PySem.W.Frag) (A : Adr) : Sp := fun vs H Q _ => ∃ (ρ : Gh) (γ : Cid) (a dx cp : Addr) (b : Bool) (w : Nat) (L : List ML) (n d : Nat) (g : Addr) (xs : List V) (av : Nat → RWire.Value), vs = [.ref a, .int d, .ref g] ∧ H a = some (.ins A.c_W dx (walkF cp b)) ∧ ρ a = none ∧ Trk ρ H ∧ CircAt K A ρ H γ cp w L ∧ CBd n L ∧ 1 ≤ n ∧ n < 14000000 ∧ L.length ≤ 1000 ∧
  Given K H g xs av ∧ ((d = 18 ∧ ∀ H' x, Same (upd H a (.ins A.c_W dx (walkF cp true))) H' → VR K H' (vStep (av 1) true) x → Q x H') ∨
    (d = 17 ∧ ∀ ρ' H1 H' x, Stp (cS γ) ρ ρ' H H1 → CircAt K A ρ' H1 γ cp w (walkL b L w) → Same (upd H1 a (.ins A.c_W dx (walkF cp (walkE b L w)))) H' → VR K H' (walkV b L w) x → Q x H'))
theorem what_ok (L : List ML) (e : MEv) : okN (whatS L e) = true := by
  cases e with
  | dl d k =>
    unfold whatS
    dsimp only
    split
    · exact kind_ok _
    · decide +kernel
  | fw u d n =>
    show okN (fwdS u) = true
    cases u <;> decide +kernel
section
variable {P : Program} {w : World} {K : PySem.W.Frag} {mg : Str → Option Value} {base : Heap} {A : Adr}
theorem ok_circuits_of (T : Txt K mg A) : Ok P w K mg base (L2N.CX P w) 7 A.f_circuits_of p_circuits_of (spCircs K A) := by
  have Gw := ok_wrong_kind (P := P) (w := w) (base := base) T
  have Gn := ok_number_of (P := P) (w := w) (base := base) T
  have Gm := ok_member (P := P) (w := w) (base := base) T
  have Gc := ok_C_init (P := P) (w := w) (base := base) T
  refine okX_of T.F_circuits_of sc_circuits_of (fun vs H Q E h => ?_) (fun cdv A' outer s H vs Q E hr h => ?_)
  · obtain ⟨ρ, N, x, v, rfl, _⟩ := h
    rfl
  · obtain ⟨ρ, N, x, v, rfl, ht, hv, q⟩ := h
    obtain ⟨uR, hR, rR⟩ := T.v_RECORD
    refine ⟨_, pss_cons (ps_expr (fn_callX Gw T.g_wrong_kind hr (L2N.takes_of rfl rfl rfl rfl) (fun _ _ _ _ h => h) (pa_cons (pe_cmpR op_ne (pe_ix ix_tup (pv 0) pe_int (fun _ _ => rfl)) (pe_glob rfl hR rR) (nomark _)) (pa_cons pe_str pa_nil))))
      (pss_cons (ps_set (i := 1) sc_circuits_of.nd rfl (Or.inr rfl) (fn_callX Gn T.g_number_of hr (L2N.takes_of rfl rfl rfl rfl) (fun _ _ _ _ h => h) (pa_cons (fn_call Gm T.g_member hr (pa_cons (pv 0) (pa_cons pe_str pa_nil))) (pa_cons pe_str (pa_cons pe_int (pa_cons pe_int pa_nil))))))
      (pss_cons (ps_set (i := 2) sc_circuits_of.nd rfl (Or.inl rfl) (fn_callX Gn T.g_number_of hr (L2N.takes_of rfl rfl rfl rfl) (fun _ _ _ _ h => h) (pa_cons (fn_call Gm T.g_member hr (pa_cons (pv 0) (pa_cons pe_str pa_nil))) (pa_cons pe_str (pa_cons pe_int (pa_cons pe_int pa_nil))))))
      (pss_cons (ps_set (i := 3) sc_circuits_of.nd rfl (Or.inr rfl) (fn_callX Gn T.g_number_of hr (L2N.takes_of rfl rfl rfl rfl) (fun _ _ _ _ h => h) (pa_cons (fn_call Gm T.g_member hr (pa_cons (pv 0) (pa_cons pe_str pa_nil))) (pa_cons pe_str (pa_cons pe_int (pa_cons pe_int pa_nil))))))
      (pss_one (ps_ret (pe_lc (own := [("circuit", 4)]) (g := gName 4) (by rfl) sc_circuits_of.nd (pi_range1 (by rfl) T.b_range (pa_cons (pv 2) pa_nil)) (blkOk_by (own := [("circuit", 4)]) (N := n_circuits_of) (sc := defScope s_circuits_of) (by decide +kernel)) (fun _ _ _ _ _ => pg_name (i := 4) sc_circuits_of.nd rfl (Or.inl rfl)) (fun _ _ _ _ _ => pts_nil)
        (fun _ _ _ _ _ => fn_make T.mk_C Gc T.gc_C hr (pa_cons (pv 1) (pa_cons (pv 3) pa_nil))))))))), ?_⟩
    obtain ⟨p, ts, rfl, htag⟩ := hv.tag
    refine ⟨_, rfl, p, _, _, _, rfl, rfl, htag, atI_nat (j := 0) rfl, rfl, ?_⟩
    by_cases h8 : tagOf v = 8
    · obtain ⟨l, rfl⟩ : ∃ l, v = .record l := by
        cases v with
        | record l => exact ⟨l, rfl⟩
        | bool b => cases b <;> cases h8
        | _ => cases h8
      unfold optM at q
      dsimp only at q
      refine ⟨false, optMsg, rfl, fun _ => ?_, fun z => by cases z⟩
      refine ⟨_, rfl, .ref p, l, "nodes", oN "nodes", rfl, hv, by decide +kernel, cV_oN (by decide +kernel), fun H1 y1 s1 hy1 => ?_⟩
      refine ⟨y1, _, "nodes", 2, 8, rfl, hy1, by decide +kernel, by decide, by decide, fun n en n1 n2 => ?_, fun hbad => ?_⟩
      · rw [numM_yes en n1 n2] at q
        refine ⟨_, rfl, .ref p, l, "circuits", oN "circuits", rfl, s1.vr hv, by decide +kernel, cV_oN (by decide +kernel), fun H2 y2 s2 hy2 => ?_⟩
        have s02 := s1.trans s2
        refine ⟨y2, _, "circuits", 1, 8, rfl, hy2, by decide +kernel, by decide, by decide, fun c ec c1 c2 => ?_, fun hbad => ?_⟩
        · rw [numM_yes ec c1 c2] at q
          refine ⟨_, rfl, .ref p, l, "window", oN "window", rfl, s02.vr hv, by decide +kernel, cV_oN (by decide +kernel), fun H3 y3 s3 hy3 => ?_⟩
          have s03 := s02.trans s3
          refine ⟨y3, _, "window", 1, 7, rfl, hy3, by decide +kernel, by decide, by decide, fun wd ew w1 w2 => ?_, fun hbad => ?_⟩
          · rw [numM_yes ew w1 w2] at q
            have q : ∀ (ρ' : Gh) (H' : Hp) (D : Addr) (cs : List Addr), Stp (fun _ => False) ρ ρ' H H' → ρ' D = none → H' D = some (.lst (cs.map V.ref)) → cs.length = c → (∀ i a, cs[i]? = some a → CircAt K A ρ' H' (N, i) a wd (List.replicate (n - 1) ML.fresh)) → Q (.ref D) H' := q
            have st3 : Stp (fun _ => False) ρ ρ H H3 := Stp.same ht s03
            refine ⟨_, rfl, (c : Nat), rfl, by omega, by omega, ?_⟩
            rw [Int.toNat_natCast]
            intro D hD
            refine lc_gh (K := K) (walk_range (lo := 0) (n := c)) st3.trk (fun ys ρ' H' => ∀ i y, ys[i]? = some y → ∃ b z, y = .ref b ∧ b ≠ D ∧ z.al ≠ D ∧ CircIs K A ρ' H' (N, i) b wd (List.replicate (n - 1) ML.fresh) z) ?_ (fun _ _ i y h => by simp at h) hD (sz_le (by omega)) (fun _ _ _ => trivial) ?_ ?_
            · intro ys ρ1 ρ2 H1 H2 m fr h i y hy
              obtain ⟨b, z, e, nb, nz, cz⟩ := h i y hy
              obtain ⟨o1, o2⟩ := fr _ _ cz.no cz.o nb
              obtain ⟨l1, l2⟩ := fr _ _ cz.nl cz.l nz
              exact ⟨b, z, e, nb, nz, o1, o2, l1, l2, cz.n, fun k a' m' h1 h2 => (cz.k k a' m' h1 h2).mv (m.mono fun _ _ => trivial)⟩
            · rintro i v H5 H6 ys ρ1 Q1 hi st hyD nD1 hly hI ⟨rfl, _⟩ k
              refine ⟨rfl, _, rfl, _, rfl, ?_⟩
              intro c0 d0 nc0 nd0 nn0
              refine ⟨H6, ρ1, (N, i), c0, d0, n, wd, rfl, by omega, by omega, (Same.new nd0).trans (Same.new (by rw [upd_ne (fun z => nn0 z.symm)]; exact nc0)), nc0, upd_same, st.trk, fun ρ2 H7 z s7 c7 hz => ⟨rfl, ?_⟩⟩
              have hcD : c0 ≠ D := fun e => by rw [e, hyD] at nc0; cases nc0
              have hzD : z.al ≠ D := fun e => by rw [e, hyD] at hz; cases hz
              refine k _ ρ2 H7 s7 fun j y hy => ?_
              by_cases hj : j < ys.length
              · rw [List.getElem?_append_left hj] at hy
                obtain ⟨b, z', e, nb, nz, cz⟩ := hI j y hy
                exact ⟨b, z', e, nb, nz, cz.stp s7 fun _ _ f => f⟩
              · rw [List.getElem?_append_right (by omega)] at hy
                have e : j = ys.length := by
                  have := (List.getElem?_eq_some_iff.mp hy).1
                  simp at this; omega
                subst e
                simp at hy
                subst hy
                rw [hly]
                exact ⟨c0, z, rfl, hcD, hzD, c7⟩
            · intro H5 ys ρ1 st nD hyD hly hI
              have hv : ∃ cs : List Addr, ys = cs.map V.ref ∧ ∀ i b, cs[i]? = some b → CircAt K A ρ1 H5 (N, i) b wd (List.replicate (n - 1) ML.fresh) := by
                refine ⟨ys.map fun y => match y with | .ref b => b | _ => 0, ?_, ?_⟩
                · rw [List.map_map]
                  apply List.ext_getElem?
                  intro i
                  rw [List.getElem?_map]
                  cases e : ys[i]? with
                  | none => rfl
                  | some y =>
                    obtain ⟨b, z, rfl, _⟩ := hI i y e
                    rfl
                · intro i b hb
                  rw [List.getElem?_map] at hb
                  cases e : ys[i]? with
                  | none => rw [e] at hb; cases hb
                  | some y =>
                    obtain ⟨b', z, rfl, _, _, cz⟩ := hI i y e
                    rw [e] at hb
                    cases hb
                    exact ⟨z, cz⟩
              obtain ⟨cs, rfl, hcs⟩ := hv
              rw [List.length_map] at hly
              exact q ρ1 H5 D cs (st3.trans st) nD hyD hly hcs
          · rw [numM_no hbad] at q
            exact RfE.same q s03
        · rw [numM_no hbad] at q
          exact RfE.same q s02
      · rw [numM_no hbad] at q
        exact RfE.same q s1
    · have e : optM v = .error (1, optMsg) := by
        cases v with
        | record l => exact absurd rfl h8
        | _ => rfl
      rw [e] at q
      have eb : (!decide (V.int (tagOf v) = V.int 8)) = true := by rw [decide_eq_false (fun z => h8 (V.int.inj z))]; rfl
      refine ⟨_, optMsg, rfl, fun z => ?_, fun _ => q⟩
      rw [eb] at z
      cases z
theorem ok_W_init (T : Txt K mg A) : Ok P w K mg base CX0 1 A.f_W_init p_W_init (spWinit A) := by
  refine ok_of T.F_W_init sc_W_init (fun vs H Q E h => ?_) (fun cdv A' outer s H vs Q E hr h => ?_)
  · obtain ⟨a, c, dx, rfl, _⟩ := h
    rfl
  · obtain ⟨a, c, dx, rfl, ha, q⟩ := h
    refine ⟨_, pss_cons (ps_fld (pv 0) (pv 1) rfl) (pss_one (ps_fld (pv 0) pe_bl rfl)), ?_⟩
    refine ⟨_, rfl, _, rfl, a, _, dx, _, rfl, ha, T.cl_W, T.a_W_circuit, (by decide), ?_⟩
    refine ⟨_, rfl, a, _, dx, _, rfl, upd_same, T.cl_W, T.a_W_is_over, few_le (few_put few0), ?_⟩
    rw [walkF_new]
    exact q _ upd_same fun b hb => by rw [upd_ne hb, upd_ne hb]
theorem ok_W_take (T : Txt K mg A) : Ok P w K mg base CX0 5 A.f_W_take p_W_take (spWtake K A) := by
  have G := ok_C_step (P := P) (w := w) (base := base) T
  refine ok_of T.F_W_take sc_W_take (fun vs H Q E h => ?_) (fun cdv A' outer s H vs Q E hr h => ?_)
  · obtain ⟨ρ, γ, a, dx, cp, b, w, L, n, rfl, _⟩ := h
    rfl
  · obtain ⟨ρ, γ, a, dx, cp, b, w', L, n, rfl, ha, na, ht, ⟨x, c⟩, hbd, hn1, hn, hl, q⟩ := h
    refine ⟨_, pss_cons (ps_set (i := 1) sc_W_take.nd rfl (Or.inl rfl) (pe_ifExp (pt_val (pe_fld (pv 0) rfl)) pe_non (fn_meth0 G T.cl_C T.m_C_step hr (pe_fld (pv 0) rfl))))
      (pss_cons (ps_fld (pv 0) (pe_cmpR op_isN (pv 1) pe_non (nomark _)) rfl)
      (pss_one (ps_ret (pv 1)))), ?_⟩
    refine ⟨_, rfl, a, _, dx, _, _, rfl, ha, T.cl_W, T.a_W_is_over, walkF_over, _, rfl, ?_⟩
    cases b with
    | true =>
      rw [if_pos rfl] at q
      refine if_yes rfl ?_
      refine ⟨_, rfl, rfl, _, rfl, a, _, dx, _, rfl, ha, T.cl_W, T.a_W_is_over, (by show 2 < 1000; decide), ?_⟩
      rw [walkF_put]
      exact ⟨_, rfl, q⟩
    | false =>
      rw [if_neg Bool.false_ne_true] at q
      refine if_no rfl ?_
      refine ⟨_, rfl, a, _, dx, _, _, rfl, ha, T.cl_W, T.a_W_circuit, walkF_circuit, cp, x.dx, _, rfl, c.o, circF_no (by decide +kernel), ρ, γ, cp, w', L, n, rfl, ht, ⟨x, c⟩, hbd, hn, hl, fun ρ2 H2 v s2 c2 hv => ?_⟩
      have ha2 := s2.keep ha na
      refine ⟨_, rfl, rfl, _, rfl, a, _, dx, _, rfl, ha2, T.cl_W, T.a_W_is_over, (by show 2 < 1000; decide), ?_⟩
      rw [walkF_put]
      refine ⟨_, rfl, ?_⟩
      have ev : decide (v = V.non) = (evC L w').isNone := by
        cases he : evC L w' with
        | none =>
          rw [he] at hv
          rw [show v = .non from hv]; rfl
        | some e =>
          rw [he] at hv
          obtain ⟨t, rfl, _⟩ := hv
          rfl
      have k := q ρ2 H2 v s2 c2 hv
      rw [← ev] at k
      exact k
theorem ok_on_walk (T : Txt K mg A) : Ok P w K mg base CX0 6 A.f_on_walk p_on_walk (spOnWalk K A) := by
  have Gt := ok_W_take (P := P) (w := w) (base := base) T
  have Gs := ok_told_step (P := P) (w := w) (base := base) T
  have Gx := ok_text (P := P) (w := w) (base := base) T
  have Gi := ok_integer (P := P) (w := w) (base := base) T
  have Gr := ok_record (P := P) (w := w) (base := base) T
  refine ok_of T.F_on_walk sc_on_walk (fun vs H Q E h => ?_) (fun cdv A' outer s H vs Q E hr h => ?_)
  · obtain ⟨ρ, γ, a, dx, cp, b, w, L, n, d, g, xs, av, rfl, _⟩ := h
    rfl
  · obtain ⟨ρ, γ, a, dx, cp, b, w', L, n, d, g, xs, av, rfl, ha, na, ht, hc, hbd, hn1, hn, hl, hg, hd⟩ := h
    refine ⟨_, pss_cons (ps_if (pt_cmpR op_eq (pv 1) pe_int (nomark _))
        (pss_cons (ps_fld (pv 0) pe_bl rfl)
        (pss_one (ps_ret (fn_call Gs T.g_told_step hr (pa_cons (pe_ix ix_list (pv 2) pe_int (fun _ _ => rfl)) (pa_cons pe_bl pa_nil)))))) pss_nil)
      (pss_cons (ps_set (i := 3) sc_on_walk.nd rfl (Or.inl rfl) (fn_meth0 Gt T.cl_W T.m_W_take hr (pv 0)))
      (pss_cons (ps_if (pt_cmpR op_isN (pv 3) pe_non (nomark _)) (pss_one (ps_ret (fn_call Gs T.g_told_step hr (pa_cons (pe_glob (v := .ref A.t_NOTHING) rfl T.v_NOTHING rfl) (pa_cons pe_bl pa_nil))))) pss_nil)
      (pss_cons (ps_asg (pv 3) (pg_tup rfl (pgs_cons (pg_name (i := 4) sc_on_walk.nd rfl (Or.inl rfl)) (pgs_cons (pg_name (i := 5) sc_on_walk.nd rfl (Or.inl rfl)) (pgs_cons (pg_name (i := 6) sc_on_walk.nd rfl (Or.inl rfl)) pgs_nil)))))
      (pss_cons (ps_set (i := 7) sc_on_walk.nd rfl (Or.inl rfl) (pe_lst (pa_cons (pe_tup (pa_cons pe_str (pa_cons (fn_call Gx T.g_text hr (pa_cons (pv 4) pa_nil)) pa_nil)))
        (pa_cons (pe_tup (pa_cons pe_str (pa_cons (fn_call Gi T.g_integer hr (pa_cons (pv 5) pa_nil)) pa_nil)))
        (pa_cons (pe_tup (pa_cons pe_str (pa_cons (fn_call Gx T.g_text hr (pa_cons (pe_ix ix_tup (pe_glob (v := .ref A.t_SIDES) rfl T.v_SIDES rfl) (pv 6) (fun _ _ => rfl)) pa_nil)) pa_nil))) pa_nil)))))
      (pss_one (ps_ret (fn_call Gs T.g_told_step hr (pa_cons (fn_call Gr T.g_record hr (pa_cons (pv 7) pa_nil)) (pa_cons pe_bl pa_nil))))))))), ?_⟩
    have nothing : ∀ H2, VR K H2 .nothing (.ref A.t_NOTHING) := fun H2 => by
      unfold VR
      exact ⟨_, rfl, T.w_NOTHING.at _⟩
    rcases hd with ⟨rfl, q⟩ | ⟨rfl, q⟩
    · refine ⟨_, rfl, rfl, _, rfl, if_yes rfl ?_⟩
      refine ⟨_, rfl, a, _, dx, _, rfl, ha, T.cl_W, T.a_W_is_over, (by show 2 < 1000; decide), ?_⟩
      rw [walkF_put]
      obtain ⟨x1, e1, v1⟩ := hg.v 1 (by decide)
      have tt : TSt K H (upd H a (.ins A.c_W dx (walkF cp true))) := TSt.upd ha trivial
      have hgl : SqL K (upd H a (.ins A.c_W dx (walkF cp true))) g xs := by
        rcases hg.l with (k | ⟨o, k⟩) | k
        · exact .inl (.inl (by rw [upd_ne (fun z => by rw [z, ha] at k; cases k)]; exact k))
        · exact .inl (.inr ⟨o, by rw [upd_ne (fun z => by rw [z, ha] at k; cases k)]; exact k⟩)
        · exact .inr k
      exact ⟨_, rfl, g, xs, 1, x1, rfl, rfl, hgl, atI_nat e1, x1, av 1, true, rfl, VR.tst tt _ _ v1, q⟩
    · refine ⟨_, rfl, rfl, _, rfl, if_no rfl ?_⟩
      refine ⟨_, rfl, a, dx, _, rfl, ha, walkF_no (by decide +kernel), ρ, γ, a, dx, cp, b, w', L, n, rfl, ha, na, ht, hc, hbd, hn1, hn, hl, ?_⟩
      cases b with
      | true =>
        rw [if_pos rfl]
        refine ⟨_, rfl, rfl, _, rfl, if_yes rfl ?_⟩
        exact ⟨.ref A.t_NOTHING, .nothing, true, rfl, nothing _, fun H' z s hz => q ρ H H' z (Stp.refl ht) hc s hz⟩
      | false =>
        rw [if_neg Bool.false_ne_true]
        intro ρ2 H2 v s2 c2 hv
        have q : ∀ ρ' H1 H' x, Stp (cS γ) ρ ρ' H H1 → CircAt K A ρ' H1 γ cp w' (nextL L w') → Same (upd H1 a (.ins A.c_W dx (walkF cp (evC L w').isNone))) H' → VR K H' (walkV false L w') x → Q x H' := q
        unfold walkV at q
        rw [if_neg Bool.false_ne_true] at q
        cases he : evC L w' with
        | none =>
          rw [he] at hv q
          rw [show v = .non from hv]
          refine ⟨_, rfl, rfl, _, rfl, if_yes rfl ?_⟩
          exact ⟨.ref A.t_NOTHING, .nothing, true, rfl, nothing _, fun H' z s hz => q ρ2 H2 H' z s2 c2 s hz⟩
        | some e =>
          rw [he] at hv q
          obtain ⟨t, rfl, htu⟩ := hv
          have ha2 := s2.keep ha na
          have htu2 : (upd H2 a (.ins A.c_W dx (walkF cp (some e).isNone))) t = some (.tup [.str (whatS L e), .int (evAt e : Nat), .int (bI (evDir e))]) := by
            rw [upd_ne (fun z => by rw [z, ha2] at htu; cases htu)]
            exact htu
          refine ⟨_, rfl, rfl, _, rfl, if_no rfl ?_⟩
          refine ⟨_, rfl, t, _, rfl, .of htu2, rfl, _, _, rfl, _, _, rfl, _, _, rfl, rfl, ?_⟩
          have g0 : GV K [some (.ref a), some (.int 17), some (.ref g), some (.ref t), some (.str (whatS L e)), some (.int (evAt e : Nat)), some (.int (bI (evDir e))), none] (upd H2 a (.ins A.c_W dx (walkF cp (some e).isNone))) (tCall (spText K) [] E0 (tCons (tVar 4) tNil)) (.text (oN (whatS L e))) := gv_text (what_ok L e) (gr_var rfl)
          have g1 : GV K [some (.ref a), some (.int 17), some (.ref g), some (.ref t), some (.str (whatS L e)), some (.int (evAt e : Nat)), some (.int (bI (evDir e))), none] (upd H2 a (.ins A.c_W dx (walkF cp (some e).isNone))) (tCall (spInteger K) [] E0 (tCons (tVar 5) tNil)) (.int (evAt e : Nat)) := gv_integer (gr_var rfl)
          have g2 : GV K [some (.ref a), some (.int 17), some (.ref g), some (.ref t), some (.str (whatS L e)), some (.int (evAt e : Nat)), some (.int (bI (evDir e))), none] (upd H2 a (.ins A.c_W dx (walkF cp (some e).isNone))) (tCall (spText K) [] E0 (tCons (tOp (rIxT K) (tC (.ref A.t_SIDES)) (tVar 6)) tNil)) (.text (oN (sText (evDir e)))) :=
            gv_text (by cases evDir e <;> decide +kernel) (gr_ixT gr_c (gr_var rfl) (T.w_SIDES.at _) (at2 (f := fun z => .str (sText z)) (evDir e)))
          have gp := gp_lst (K := K) (ga_cons (z := "what") (by decide +kernel) g0 (ga_cons (z := "at") (by decide +kernel) g1 (ga_cons (z := "direction") (by decide +kernel) g2 ga_nil))) (Nat.le_of_ble_eq_true rfl)
          dsimp only [gName]
          refine seq_in ?_
          refine asg_in ?_
          refine gp _ (Same.refl _) _ fun D ys H3 s3 nD hD hy => ?_
          refine ⟨_, rfl, D, ys, _, rfl, .of hD, hy, Nat.le_of_ble_eq_true rfl, fun H4 z s4 hz => ?_⟩
          exact ⟨z, vEv L e, false, rfl, hz, fun H5 z5 s5 hz5 => q ρ2 H2 H5 z5 s2 c2 ((s3.trans s4).trans s5) hz5⟩
end
end Rl
end
section
set_option Elab.async false
set_option linter.all false
set_option maxRecDepth 100000
set_option maxHeartbeats 4000000
/-! RlD4: nets, walks and the library in the heap; circuit_of, restart, told_state. -/
namespace Rl
open PySem PySem.Spec PyProof.Rows L2

structure MNet where
  w : Nat
  cs : List (List ML)
structure MWlk where
  net : Nat
  cir : Nat
  ended : Bool
structure MW where
  heap : List MNet
  nets : Nat → Option Nat
  walks : Nat → Option MWlk
def MNet.withC (N : MNet) (k : Nat) (L : List ML) : MNet := { N with cs := N.cs.set k L }
def NOk (n : Nat) (N : MNet) : Prop := 1 ≤ N.cs.length ∧ N.cs.length ≤ 8 ∧ ∃ l, 1 ≤ l ∧ l ≤ 7 ∧ ∀ L ∈ N.cs, L.length = l ∧ CBd n L
theorem NOk.mono {n k : Nat} {N : MNet} (h : NOk n N) (l : n ≤ k) : NOk k N := by
  obtain ⟨h1, h2, m, m1, m2, h3⟩ := h
  exact ⟨h1, h2, m, m1, m2, fun L hL => ⟨(h3 L hL).1, (h3 L hL).2.mono l⟩⟩
theorem NOk.withC {n : Nat} {N : MNet} {k : Nat} {L : List ML} (h : NOk n N) (hk : k < N.cs.length) (l : L.length = (N.cs[k]).length) (b : CBd n L) : NOk n (N.withC k L) := by
  obtain ⟨h1, h2, m, m1, m2, h3⟩ := h
  refine ⟨by show 1 ≤ (N.cs.set k L).length; rw [List.length_set]; exact h1, by show (N.cs.set k L).length ≤ 8; rw [List.length_set]; exact h2, m, m1, m2, fun M hM => ?_⟩
  rcases List.mem_or_eq_of_mem_set hM with q | q
  · exact h3 M q
  · rw [q, l]
    exact ⟨(h3 _ (List.getElem_mem hk)).1, b⟩
theorem NOk.get {n : Nat} {N : MNet} {k : Nat} (h : NOk n N) (hk : k < N.cs.length) : 1 ≤ (N.cs[k]).length ∧ (N.cs[k]).length ≤ 7 ∧ CBd n N.cs[k] := by
  obtain ⟨h1, h2, m, m1, m2, h3⟩ := h
  have := h3 _ (List.getElem_mem hk)
  exact ⟨by omega, by omega, this.2⟩
theorem NOk.eqlen {n : Nat} {N : MNet} {j k : Nat} (h : NOk n N) (hj : j < N.cs.length) (hk : k < N.cs.length) : (N.cs[j]).length = (N.cs[k]).length := by
  obtain ⟨h1, h2, m, m1, m2, h3⟩ := h
  rw [(h3 _ (List.getElem_mem hj)).1, (h3 _ (List.getElem_mem hk)).1]
structure NetIs (K : PySem.W.Frag) (A : Adr) (ρ : Gh) (H : Hp) (i : Nat) (a : Addr) (cs : List Addr) (N : MNet) : Prop where
  l : H a = some (.lst (cs.map V.ref))
  nl : ρ a = none
  n : cs.length = N.cs.length
  c : ∀ j p L, cs[j]? = some p → N.cs[j]? = some L → CircAt K A ρ H (i, j) p N.w L
def nS (i : Nat) : Pth × Rol → Prop := fun z => z.1.1 = i
/-- not a list, a tuple, a circuit -/
def NotC (A : Adr) (u : HO) : Prop := (∀ xs, u ≠ .lst xs) ∧ (∀ xs, u ≠ .tup xs) ∧ (∀ o v, u ≠ .frz o v) ∧ ∀ dx w al, u ≠ .ins A.c_C dx (circF w al)
theorem NotC.dk {A : Adr} {kvs : List (Key × V)} : NotC A (.dK kvs) := ⟨fun _ h => (by cases h), fun _ h => (by cases h), fun _ _ h => (by cases h), fun _ _ _ h => (by cases h)⟩
theorem NotC.walk {A : Adr} {C dx c : Addr} {b : Bool} : NotC A (.ins C dx (walkF c b)) := ⟨fun _ h => (by cases h), fun _ h => (by cases h), fun _ _ h => (by cases h), fun dx' w al h => by
  injection h with h1 h2 h3
  have e := congrArg (List.lookup ("circuit" : Str)) h3
  rw [walkF_circuit, circF_no (by decide +kernel)] at e
  cases e⟩
section
variable {K : PySem.W.Frag} {A : Adr} {ρ ρ' : Gh} {H H' : Hp} {γ : Cid} {p q a : Addr} {w i : Nat} {L : List ML} {x : CA} {S : Pth × Rol → Prop} {u o : HO} {cs : List Addr} {N : MNet}
theorem NotC.tst (nc : NotC A u) (hu : H q = some u) : TSt K H (upd H q o) := fun b xs h => by
  rcases h with (h | ⟨ob, h⟩) | h
  · exact .inl (.inl (by rw [upd_ne (fun z => by rw [z, hu] at h; exact nc.2.1 _ (Option.some.inj h))]; exact h))
  · exact .inl (.inr ⟨ob, by rw [upd_ne (fun z => by rw [z, hu] at h; exact nc.2.2.1 _ _ (Option.some.inj h))]; exact h⟩)
  · exact .inr h
theorem NotC.mv {R : Pth × Rol → Prop} (nc : NotC A u) (hq : ρ q = none) (hu : H q = some u) : Mv K R ρ ρ H (upd H q o) := ⟨fun x b v _ c => ⟨c.r, by rw [upd_ne (fun z => by have e := c.r; rw [z, hq] at e; cases e)]; exact c.h⟩, nc.tst hu⟩
theorem CircIs.upd (c : CircIs K A ρ H γ p w L x) (hq : ρ q = none) (hu : H q = some u) (nc : NotC A u) : CircIs K A ρ (L2.upd H q o) γ p w L x :=
  ⟨by rw [upd_ne (fun z => by have e := c.o; rw [z, hu] at e; exact nc.2.2.2 _ _ _ (Option.some.inj e))]; exact c.o, c.no,
   by rw [upd_ne (fun z => by have e := c.l; rw [z, hu] at e; exact nc.1 _ (Option.some.inj e))]; exact c.l, c.nl, c.n, fun j b m h1 h2 => (c.k j b m h1 h2).mv (nc.mv hq hu)⟩
theorem NetIs.upd (c : NetIs K A ρ H i a cs N) (hq : ρ q = none) (hu : H q = some u) (nc : NotC A u) : NetIs K A ρ (L2.upd H q o) i a cs N :=
  ⟨by rw [upd_ne (fun z => by have e := c.l; rw [z, hu] at e; exact nc.1 _ (Option.some.inj e))]; exact c.l, c.nl, c.n, fun j b L h1 h2 => by
    obtain ⟨x, k⟩ := c.c j b L h1 h2
    exact ⟨x, k.upd hq hu nc⟩⟩
theorem NetIs.stp (c : NetIs K A ρ H i a cs N) (s : Stp S ρ ρ' H H') (h : ∀ z, nS i z → ¬ S z) : NetIs K A ρ' H' i a cs N :=
  ⟨s.keep c.l c.nl, s.role c.nl c.l, c.n, fun j b L h1 h2 => (c.c j b L h1 h2).stp s fun z hz => h z hz.1⟩
theorem NetIs.same (c : NetIs K A ρ H i a cs N) (t : Trk ρ H) (e : Same H H') : NetIs K A ρ H' i a cs N := c.stp (S := fun _ => False) (Stp.same t e) fun _ _ f => f
theorem NetIs.set (c : NetIs K A ρ H i a cs N) {k : Nat} {L' : List ML} (s : Stp (cS (i, k)) ρ ρ' H H') (hp : cs[k]? = some p) (h : CircAt K A ρ' H' (i, k) p N.w L') : NetIs K A ρ' H' i a cs (N.withC k L') := by
  refine ⟨s.keep c.l c.nl, s.role c.nl c.l, by rw [c.n]; show _ = (N.cs.set k L').length; rw [List.length_set], fun j b M h1 h2 => ?_⟩
  by_cases hj : j = k
  · subst hj
    rw [hp] at h1
    cases h1
    have h2 : (N.cs.set j L')[j]? = some M := h2
    rw [List.getElem?_set] at h2
    split at h2
    · split at h2
      · cases h2; exact h
      · cases h2
    · rename_i z; exact absurd rfl z
  · have h2 : (N.cs.set k L')[j]? = some M := h2
    rw [List.getElem?_set_ne (fun z => hj z.symm)] at h2
    exact (c.c j b M h1 h2).stp s fun z hz hz' => hj (hz.2.symm.trans hz'.2)
theorem cS_nS {k : Nat} : ∀ z, cS (i, k) z → nS i z := fun z hz => hz.1
theorem NetIs.at (c : NetIs K A ρ H i a cs N) {k : Nat} (h : k < N.cs.length) : ∃ p, cs[k]? = some p ∧ CircAt K A ρ H (i, k) p N.w N.cs[k] ∧ atI (cs.map V.ref) (k : Int) = some (.ref p) := by
  have hl : k < cs.length := by rw [c.n]; exact h
  refine ⟨cs[k], List.getElem?_eq_getElem hl, c.c k _ _ (List.getElem?_eq_getElem hl) (List.getElem?_eq_getElem h), ?_⟩
  refine atI_nat ?_
  rw [List.getElem?_map, List.getElem?_eq_getElem hl]; rfl
end
def vState (N : MNet) : RWire.Value := .record [(oN "window", .int (N.w : Nat)), (oN "quiet", .list (N.cs.map fun L => .bool (quietC L)))]
def spBcirc (K : PySem.W.Frag) (A : Adr) : Sp := fun vs H Q E => ∃ (ρ : Gh) (i : Nat) (a na : Addr) (cs : List Addr) (N : MNet) (n : Nat) (x : V) (v : RWire.Value), vs = [.ref a, .ref na, x] ∧ NetIs K A ρ H i na cs N ∧ NOk n N ∧ VR K H v x ∧
  (∀ (k : Nat) (p : Addr), v = .int k → k < N.cs.length → cs[k]? = some p → Q (.ref p) H) ∧ (isIntV v (0 : Nat) ((N.cs.length - 1 : Nat) : Int) = false → RfE K A H 1 (numMsg "circuit" 0 (N.cs.length - 1)) E)
def spBrestart (K : PySem.W.Frag) (A : Adr) : Sp := fun vs H Q E => ∃ (ρ : Gh) (i : Nat) (a na : Addr) (cs : List Addr) (N : MNet) (n : Nat) (x : V) (v : RWire.Value), vs = [.ref a, .ref na, x] ∧ Trk ρ H ∧ NetIs K A ρ H i na cs N ∧ NOk n N ∧ n < 14000000 ∧ VR K H v x ∧
  (∀ k : Nat, v = .int k → k ≤ (N.cs.headD []).length → ∀ ρ' H', Stp (nS i) ρ ρ' H H' → NetIs K A ρ' H' i na cs { N with cs := N.cs.map fun L => resetC L k } → Q (.ref A.t_NOTHING) H') ∧
  (isIntV v (0 : Nat) (((N.cs.headD []).length : Nat) : Int) = false → RfE K A H 1 (numMsg "node" 0 (N.cs.headD []).length) E)
def spBstate (K : PySem.W.Frag) (A : Adr) : Sp := fun vs H Q _ => ∃ (ρ : Gh) (i : Nat) (a na : Addr) (cs : List Addr) (N : MNet) (n : Nat), vs = [.ref a, .ref na] ∧ Trk ρ H ∧ NetIs K A ρ H i na cs N ∧ NOk n N ∧ ∀ H' x, Same H H' → VR K H' (vState N) x → Q x H'
section
variable {P : Program} {w : World} {K : PySem.W.Frag} {mg : Str → Option Value} {base : Heap} {A : Adr}
theorem ok_B_circuit_of (T : Txt K mg A) : Ok P w K mg base (L2N.CX P w) 5 A.f_B_circuit_of p_B_circuit_of (spBcirc K A) := by
  have Gn := ok_number_of (P := P) (w := w) (base := base) T
  refine okX_of T.F_B_circuit_of sc_B_circuit_of (fun vs H Q E h => ?_) (fun cdv A' outer s H vs Q E hr h => ?_)
  · obtain ⟨ρ, i, a, na, cs, N, n, x, v, rfl, _⟩ := h
    rfl
  · obtain ⟨ρ, i, a, na, cs, N, n, x, v, rfl, c, hN, hv, q1, q2⟩ := h
    refine ⟨_, pss_one (ps_ret (pe_ix ix_list (pv 1) (fn_callX Gn T.g_number_of hr (L2N.takes_of rfl rfl rfl rfl) (fun _ _ _ _ h => h) (pa_cons (pv 2) (pa_cons pe_str (pa_cons pe_int (pa_cons (pe_op op_sub (pe_lenOf T.b_len (pv 1)) pe_int) pa_nil))))) (fun _ _ => rfl))), ?_⟩
    have h1 := hN.1
    have h2 := hN.2.1
    have el : (N.cs.length : Int) - 1 = ((N.cs.length - 1 : Nat) : Int) := by omega
    refine ⟨_, rfl, _, rfl, _, rfl, na, _, rfl, .inl (SqL.of c.l), _, _, rfl, rfl, ?_⟩
    rw [List.length_map, c.n]
    have ek : [x, V.str "circuit", V.int 0, V.int ((N.cs.length : Int) - 1)] = [x, V.str "circuit", V.int (0 : Nat), V.int ((N.cs.length - 1 : Nat) : Int)] := by rw [el]; rfl
    refine ⟨x, v, "circuit", 0, N.cs.length - 1, ek, hv, by decide +kernel, by decide, by omega, fun k ek k1 k2 => ?_, q2⟩
    obtain ⟨p, hp, _, hat⟩ := c.at (k := k) (by omega)
    exact ⟨na, _, _, _, rfl, rfl, SqL.of c.l, hat, q1 k p ek (by omega) hp⟩
theorem ok_B_restart (T : Txt K mg A) : Ok P w K mg base (L2N.CX P w) 5 A.f_B_restart p_B_restart (spBrestart K A) := by
  have Gn := ok_number_of (P := P) (w := w) (base := base) T
  have Gr := ok_C_reset (P := P) (w := w) (base := base) T
  refine okX_of T.F_B_restart sc_B_restart (fun vs H Q E h => ?_) (fun cdv A' outer s H vs Q E hr h => ?_)
  · obtain ⟨ρ, i, a, na, cs, N, n, x, v, rfl, _⟩ := h
    rfl
  · obtain ⟨ρ, i, a, na, cs, N, n, x, v, rfl, ht, c, hN, hn, hv, q1, q2⟩ := h
    refine ⟨_, pss_cons (ps_set (i := 3) sc_B_restart.nd rfl (Or.inl rfl) (fn_callX Gn T.g_number_of hr (L2N.takes_of rfl rfl rfl rfl) (fun _ _ _ _ h => h) (pa_cons (pv 2) (pa_cons pe_str (pa_cons pe_int (pa_cons (pe_lenOf T.b_len (pe_fld (pe_ix ix_list (pv 1) pe_int (fun _ _ => rfl)) rfl)) pa_nil))))))
      (pss_cons (ps_for (passes_of rfl) rfl (pi_list (pv 1)) (pg_name (i := 4) sc_B_restart.nd rfl (Or.inl rfl)) (pss_one (ps_expr (fn_meth Gr T.cl_C T.m_C_reset hr (pv 4) (pa_cons (pv 3) pa_nil)))))
      (pss_one (ps_ret (pe_glob (v := .ref A.t_NOTHING) rfl T.v_NOTHING rfl)))), ?_⟩
    have h1 := hN.1
    obtain ⟨p0, hp0, ⟨z0, c0⟩, hat0⟩ := c.at (k := 0) (by omega)
    have eh : N.cs.headD [] = N.cs[0] := by
      rw [List.headD_eq_head?_getD, List.head?_eq_getElem?, List.getElem?_eq_getElem (show 0 < N.cs.length by omega)]; rfl
    have hL0 := hN.get (show 0 < N.cs.length by omega)
    refine ⟨_, rfl, _, rfl, na, _, _, _, rfl, rfl, SqL.of c.l, hat0, p0, _, z0.dx, _, _, rfl, c0.o, T.cl_C, T.a_C_links, circF_links, _, _, rfl, .inl (SqL.of c0.l), ?_⟩
    rw [List.length_map, c0.n]
    rw [eh] at q1 q2
    refine ⟨x, v, "node", 0, (N.cs[0]).length, rfl, hv, by decide +kernel, by decide, by omega, fun k ek k1 k2 => ?_, q2⟩
    refine ⟨_, rfl, na, rfl, ⟨_, SqL.of c.l⟩, for_it (walk_list (xs := cs.map V.ref)) (fun j σ H' => ∃ (v4 : Option V) (ρ' : Gh) (cs' : List (List ML)), σ = [some (.ref a), some (.ref na), some x, some (.int (k : Nat)), v4] ∧ Stp (nS i) ρ ρ' H H' ∧ NetIs K A ρ' H' i na cs { N with cs := cs' } ∧ cs'.length = N.cs.length ∧ ∀ t, cs'[t]? = if t < j then (N.cs[t]?).map fun L => resetC L k else N.cs[t]?)
      ⟨none, ρ, N.cs, rfl, Stp.refl ht, c, rfl, fun t => by rw [if_neg (Nat.not_lt_zero t)]⟩ (fun j σ H' _ ⟨_, _, _, _, _, c', _⟩ => SqL.of c'.l) ?_ ?_⟩
    · rintro j y σ H1 H' hj ⟨v4, ρ', cs', rfl, st, c', hlen, hcs⟩ ⟨rfl, hy⟩
      rw [List.length_map] at hj
      have hjN : j < N.cs.length := by rw [← c.n]; exact hj
      rw [List.getElem?_map, List.getElem?_eq_getElem hj] at hy
      cases hy
      have ej := hcs j
      rw [if_neg (Nat.lt_irrefl j), List.getElem?_eq_getElem hjN] at ej
      have hcj := c'.c j _ _ (List.getElem?_eq_getElem hj) ej
      obtain ⟨z, cz⟩ := id hcj
      have hLj := hN.get hjN
      refine ⟨_, rfl, cs[j], z.dx, _, rfl, cz.o, circF_no (by decide +kernel), _, rfl, ρ', (i, j), cs[j], N.w, N.cs[j], n, k, rfl, st.trk, hcj, hLj.2.2, hn, ?_, fun ρ2 H2 s2 c2 => ?_⟩
      · rw [hN.eqlen hjN (show 0 < N.cs.length by omega)]
        exact k2
      · refine ⟨_, ρ2, cs'.set j (resetC N.cs[j] k), rfl, st.trans (s2.mono cS_nS), c'.set s2 (List.getElem?_eq_getElem hj) c2, by rw [List.length_set]; exact hlen, fun t => ?_⟩
        rw [List.getElem?_set]
        by_cases htj : j = t
        · subst htj
          rw [if_pos rfl, if_pos (by omega), if_pos (Nat.lt_succ_self j), List.getElem?_eq_getElem hjN]; rfl
        · rw [if_neg htj, hcs t]
          by_cases hlt : t < j
          · rw [if_pos hlt, if_pos (by omega)]
          · rw [if_neg hlt, if_neg (by omega)]
    · rintro σ H1 ⟨v4, ρ', cs', rfl, st, c', hlen, hcs⟩
      have e : cs' = N.cs.map fun L => resetC L k := by
        apply List.ext_getElem?
        intro t
        rw [hcs t, List.getElem?_map, List.length_map]
        by_cases htl : t < cs.length
        · rw [if_pos htl]
        · rw [if_neg htl, List.getElem?_eq_none (by rw [← c.n]; omega)]; rfl
      subst e
      exact q1 k ek k2 ρ' H1 st c'
theorem ok_B_told_state (T : Txt K mg A) : Ok P w K mg base CX0 3 A.f_B_told_state p_B_told_state (spBstate K A) := by
  have Gq := ok_C_is_quiet (P := P) (w := w) (base := base) T
  have Gt := ok_truth (P := P) (w := w) (base := base) T
  have Gl := ok_listed (P := P) (w := w) (base := base) T
  have Gi := ok_integer (P := P) (w := w) (base := base) T
  have Gr := ok_record (P := P) (w := w) (base := base) T
  refine ok_of T.F_B_told_state sc_B_told_state (fun vs H Q E h => ?_) (fun cdv A' outer s H vs Q E hr h => ?_)
  · obtain ⟨ρ, i, a, na, cs, N, n, rfl, _⟩ := h
    rfl
  · obtain ⟨ρ, i, a, na, cs, N, n, rfl, ht, c, hN, q⟩ := h
    refine ⟨_, pss_cons (ps_set (i := 2) sc_B_told_state.nd rfl (Or.inl rfl) (fn_call Gl T.g_listed hr (pa_cons
        (pe_lc (own := [("circuit", 3)]) (g := gName 3) (by rfl) sc_B_told_state.nd (pi_list (pv 1)) (blkOk_by (own := [("circuit", 3)]) (N := n_B_told_state) (sc := defScope s_B_told_state) (by decide +kernel)) (fun _ _ _ _ _ => pg_name (i := 3) sc_B_told_state.nd rfl (Or.inl rfl)) (fun _ _ _ _ _ => pts_nil)
          (fun _ _ _ _ _ => fn_call Gt T.g_truth hr (pa_cons (fn_meth0 Gq T.cl_C T.m_C_is_quiet hr (pv 3)) pa_nil))) pa_nil)))
      (pss_one (ps_ret (fn_call Gr T.g_record hr (pa_cons (pe_lst (pa_cons (pe_tup (pa_cons pe_str (pa_cons (fn_call Gi T.g_integer hr (pa_cons (pe_fld (pe_ix ix_list (pv 1) pe_int (fun _ _ => rfl)) rfl) pa_nil)) pa_nil)))
        (pa_cons (pe_tup (pa_cons pe_str (pa_cons (pv 2) pa_nil))) pa_nil))) pa_nil)))), ?_⟩
    have h1 := hN.1
    have h2 := hN.2.1
    have gq : GV K (start n_B_told_state [.ref a, .ref na]) H (tCall (spListed K) [] E0 (tCons (tLc (iList K (tVar 1)) (gName 3) tYes (tCall (spTruth K) [] E0 (tCons (tMeth A.c_C "is_quiet" (spCquiet K A) [] E0 (tVar 3) tNil) tNil)) [3]) tNil)) (.list (N.cs.map fun L => .bool (quietC L))) := by
      refine gv_listed (gls_lc (gr_var rfl) (SqL.of c.l) (by rw [List.length_map, List.length_map, c.n]) (by rw [List.length_map]; omega) (fun _ => rfl) ?_)
      intro j y v hy hv
      rw [List.getElem?_map] at hy hv
      cases ep : cs[j]? with
      | none => rw [ep] at hy; cases hy
      | some p =>
        cases eL : N.cs[j]? with
        | none => rw [eL] at hv; cases hv
        | some L =>
          rw [ep] at hy
          rw [eL] at hv
          cases hy
          cases hv
          intro H1 s1 Q1 k1
          have hjN : j < N.cs.length := (List.getElem?_eq_some_iff.mp eL).1
          have eLj : N.cs[j] = L := by rw [List.getElem?_eq_getElem hjN] at eL; exact Option.some.inj eL
          have hg := hN.get hjN
          rw [eLj] at hg
          obtain ⟨z, cz⟩ := (c.same ht s1).c j p L ep eL
          exact ⟨_, rfl, p, z.dx, _, rfl, cz.o, circF_no (by decide +kernel), ρ, (i, j), p, N.w, L, rfl, ht.same s1, ⟨z, cz⟩, by omega, fun H2 s2 => ⟨_, rfl, fun H3 x s3 h3 => k1 x H3 (s2.trans s3) h3⟩⟩
    refine seq_in ?_
    refine asg_in ?_
    refine gq H (Same.refl _) _ fun y H1 s1 hy => ?_
    dsimp only [gName]
    refine ret_in ?_
    have c1 := c.same ht s1
    obtain ⟨p0, hp0, ⟨z0, c0⟩, hat0⟩ := c1.at (k := 0) (by omega)
    have g0 : GR [some (.ref a), some (.ref na), some y, none] H1 (tFld K (tOp (rIxL K) (tVar 1) (tC (.int 0))) "window") (.int (N.w : Nat)) := gr_fld (gr_ixL (gr_var rfl) gr_c (SqL.of c1.l) hat0) c0.o T.cl_C T.a_C_window circF_window
    exact gv_record (gp_lst (ga_cons (z := "window") (by decide +kernel) (gv_integer g0) (ga_cons (z := "quiet") (by decide +kernel) (gv_of _ hy (gr_var rfl)) ga_nil)) (Nat.le_of_ble_eq_true rfl)) (Nat.le_of_ble_eq_true rfl) H1 (Same.refl _) _ fun x H' s h => q H' x (s1.trans s) h
end
end Rl
end
section
set_option Elab.async false
set_option linter.all false
set_option maxRecDepth 100000
set_option maxHeartbeats 4000000
/-! RlD5: the world in the heap, what stands when it changes; what a call does, by the mirror. -/
namespace Rl
open PySem PySem.Spec PyProof.Rows L2

def upN {α : Type} (f : Nat → Option α) (k : Nat) (v : Option α) : Nat → Option α := fun j => if j = k then v else f j
theorem upN_same {α : Type} {f : Nat → Option α} {k : Nat} {v : Option α} : upN f k v k = v := if_pos rfl
theorem upN_ne {α : Type} {f : Nat → Option α} {k j : Nat} {v : Option α} (h : j ≠ k) : upN f k v j = f j := if_neg h
def MW.setNet (W : MW) (i : Nat) (N : MNet) : MW := { W with heap := W.heap.set i N }
abbrev WRes := Except (Int × Str) (RWire.Value × MW)
def newM (W : MW) (s : Nat) (v : RWire.Value) : WRes := match optM v with
  | .error e => .error e
  | .ok (n, c, w) => .ok (.nothing, ⟨W.heap ++ [⟨w, List.replicate c (List.replicate (n - 1) ML.fresh)⟩], upN W.nets s (some W.heap.length), W.walks⟩)
def onCirc (W : MW) (i : Nat) (N : MNet) (k : Nat) (r : MRes) : WRes := match r with
  | .error e => .error e
  | .ok (v, L') => .ok (v, W.setNet i (N.withC k L'))
def circDoor (W : MW) (i : Nat) (N : MNet) (v : RWire.Value) (f : List ML → MRes) : WRes := numM v "circuit" 0 (N.cs.length - 1) fun k => onCirc W i N k (f (N.cs.getD k []))
def doorM (w d : Nat) (a : Nat → RWire.Value) (L : List ML) : MRes := if d < 5 ∨ (11 ≤ d ∧ d ≤ 13) then termM L w (d - 1) (a 2) (a 3) (a 4) else circM L w (d - 1) (a 2) (a 3)
def restartM (W : MW) (i : Nat) (N : MNet) (v : RWire.Value) : WRes := numM v "node" 0 (N.cs.headD []).length fun k => .ok (.nothing, W.setNet i { N with cs := N.cs.map fun L => resetC L k })
def wnewM (W : MW) (s i : Nat) (N : MNet) (v : RWire.Value) : WRes := numM v "circuit" 0 (N.cs.length - 1) fun k => .ok (.nothing, { W with walks := upN W.walks s (some ⟨i, k, false⟩) })
def nextM (W : MW) (t : Nat) (m : MWlk) (N : MNet) (L : List ML) : RWire.Value × MW := (walkV m.ended L N.w, { W with heap := W.heap.set m.net (N.withC m.cir (walkL m.ended L N.w)), walks := upN W.walks t (some { m with ended := walkE m.ended L N.w }) })
def retM (W : MW) (t : Nat) (m : MWlk) (v : RWire.Value) : RWire.Value × MW := (vStep v true, { W with walks := upN W.walks t (some { m with ended := true }) })
structure WOk (W : MW) (n : Nat) : Prop where
  p : 1 ≤ n
  s : ∀ p i, W.nets p = some i → i < W.heap.length
  w : ∀ t m, W.walks t = some m → ∃ N, W.heap[m.net]? = some N ∧ m.cir < N.cs.length
  c : ∀ N ∈ W.heap, NOk n N

def nsB : List Str := ["nets", "walks"]
theorem ndB : nsB.Nodup := by decide +kernel
def libF (dn dw : Addr) : List (Str × V) := nsB.zip [.ref dn, .ref dw]
theorem libF_nets {dn dw : Addr} : (libF dn dw).lookup ("nets" : Str) = some (.ref dn) := fld_get ndB (i := 0) rfl rfl
theorem libF_walks {dn dw : Addr} : (libF dn dw).lookup ("walks" : Str) = some (.ref dw) := fld_get ndB (i := 1) rfl rfl
theorem libF_no {m : Str} (h : m ∉ nsB) {dn dw : Addr} : (libF dn dw).lookup m = none := fld_no h
theorem libF_new {dn dw : Addr} : putF "walks" (.ref dw) (putF "nets" (.ref dn) []) = libF dn dw := by
  have e1 : putF ("nets" : Str) (.ref dn) [] = (["nets"] : List Str).zip [V.ref dn] := rfl
  rw [e1, fld_new (by decide +kernel) rfl]; rfl
theorem lib_ne_walk {A : Adr} {dx dn dw dx' c : Addr} {b : Bool} {C : Addr} : HO.ins C dx (libF dn dw) ≠ .ins A.c_W dx' (walkF c b) := fun h => by
  injection h with h1 h2 h3
  have e := congrArg (List.lookup ("circuit" : Str)) h3
  rw [walkF_circuit, libF_no (by decide +kernel)] at e
  cases e
structure WA where
  dx : Addr
  dn : Addr
  dw : Addr
  kn : List (Key × V)
  kw : List (Key × V)
  na : Nat → Addr
  ca : Nat → List Addr
  wa : Nat → Addr
  wd : Nat → Addr
def kI (s : Nat) : Key := .inl (s : Nat)
theorem kI_inj {s t : Nat} (h : kI s = kI t) : s = t := by
  have := Sum.inl.inj h
  omega
structure WIs (K : PySem.W.Frag) (A : Adr) (ρ : Gh) (H : Hp) (a : Addr) (W : MW) (x : WA) (n : Nat) : Prop where
  o : H a = some (.ins A.c_B x.dx (libF x.dn x.dw))
  no : ρ a = none
  hn : H x.dn = some (.dK x.kn)
  hw : H x.dw = some (.dK x.kw)
  dd : x.dn ≠ x.dw
  ln : x.kn.length ≤ n
  lw : x.kw.length ≤ n
  vn : ∀ p, p < 2 → valV x.kn (kI p) = (W.nets p).map fun i => V.ref (x.na i)
  vw : ∀ t, t < 2 → valV x.kw (kI t) = (W.walks t).map fun _ => V.ref (x.wa t)
  nt : ∀ i N, W.heap[i]? = some N → NetIs K A ρ H i (x.na i) (x.ca i) N
  wk : ∀ t, t < 2 → ∀ m, W.walks t = some m → ∃ cp, (x.ca m.net)[m.cir]? = some cp ∧ H (x.wa t) = some (.ins A.c_W (x.wd t) (walkF cp m.ended)) ∧ ρ (x.wa t) = none
  df : ∀ s t m m', s < 2 → t < 2 → s ≠ t → W.walks s = some m → W.walks t = some m' → x.wa s ≠ x.wa t
structure WAt (K : PySem.W.Frag) (A : Adr) (ρ : Gh) (H : Hp) (a : Addr) (W : MW) (n : Nat) : Prop where
  t : Trk ρ H
  k : WOk W n
  i : ∃ x, WIs K A ρ H a W x n
/-- lists of no role and tuples stand -/
structure Wfr (K : PySem.W.Frag) (ρ ρ' : Gh) (H H' : Hp) : Prop where
  l : ∀ b xs, ρ b = none → H b = some (.lst xs) → ρ' b = none ∧ H' b = some (.lst xs)
  t : TSt K H H'
  f : ∀ b o u, H b = some (.frz o u) → H' b = some (.frz o u)
section
variable {K : PySem.W.Frag} {A : Adr} {ρ ρ' ρ'' : Gh} {H H' H'' : Hp} {a q : Addr} {W : MW} {x : WA} {n n' : Nat} {S : Pth × Rol → Prop} {u o : HO}
theorem Wfr.refl : Wfr K ρ ρ H H := ⟨fun _ _ h k => ⟨h, k⟩, TSt.refl H, fun _ _ _ h => h⟩
theorem Wfr.trans (f : Wfr K ρ ρ' H H') (g : Wfr K ρ' ρ'' H' H'') : Wfr K ρ ρ'' H H'' := ⟨fun b xs h k => by
  obtain ⟨h1, k1⟩ := f.l b xs h k
  exact g.l b xs h1 k1, f.t.trans g.t, fun b o u h => g.f b o u (f.f b o u h)⟩
theorem Wfr.stp (s : Stp S ρ ρ' H H') : Wfr K ρ ρ' H H' := ⟨fun b xs h k => ⟨s.role h k, s.keep k h⟩, s.tst, fun b o u h => s.keep h (s.t0.norole h fun f => f)⟩
theorem Wfr.same (t : Trk ρ H) (s : Same H H') : Wfr K ρ ρ H H' := Wfr.stp (S := fun _ => False) (Stp.same t s)
theorem Wfr.upd (hu : H q = some u) (nc : NotC A u) : Wfr K ρ ρ H (L2.upd H q o) := ⟨fun b xs h k => ⟨h, by rw [upd_ne (fun z => by rw [z, hu] at k; exact nc.1 _ (Option.some.inj k))]; exact k⟩, nc.tst hu, fun b o u h => by rw [upd_ne (fun z => by rw [z, hu] at h; exact nc.2.2.1 _ _ (Option.some.inj h))]; exact h⟩
theorem Trk.upd (t : Trk ρ H) (hq : ρ q = none) : Trk ρ (L2.upd H q o) := fun b y e => by
  have hb : b ≠ q := fun z => by rw [z, hq] at e; cases e
  rcases t b y e with ⟨xs, z⟩ | ⟨C, dx, fs, z⟩
  · exact .inl ⟨xs, by rw [upd_ne hb]; exact z⟩
  · exact .inr ⟨C, dx, fs, by rw [upd_ne hb]; exact z⟩
theorem WIs.step (c : WIs K A ρ H a W x n) (s : Stp S ρ ρ' H H') (hp : List MNet) (h : ∀ i N, hp[i]? = some N → NetIs K A ρ' H' i (x.na i) (x.ca i) N) (hn : n ≤ n') : WIs K A ρ' H' a ⟨hp, W.nets, W.walks⟩ x n' where
  o := s.keep c.o c.no
  no := s.role c.no c.o
  hn := s.keep c.hn (s.t0.norole c.hn fun f => f)
  hw := s.keep c.hw (s.t0.norole c.hw fun f => f)
  dd := c.dd
  ln := Nat.le_trans c.ln hn
  lw := Nat.le_trans c.lw hn
  vn := c.vn
  vw := c.vw
  nt := h
  wk := fun t ht m hm => by
    obtain ⟨cp, h1, h2, h3⟩ := c.wk t ht m hm
    exact ⟨cp, h1, s.keep h2 h3, s.role h3 h2⟩
  df := c.df
theorem WIs.same (c : WIs K A ρ H a W x n) (t : Trk ρ H) (s : Same H H') : WIs K A ρ H' a W x n := c.step (S := fun _ => False) (Stp.same t s) W.heap (fun i N h => (c.nt i N h).same t s) (Nat.le_refl n)
theorem WIs.mono (c : WIs K A ρ H a W x n) (h : n ≤ n') : WIs K A ρ H a W x n' := ⟨c.o, c.no, c.hn, c.hw, c.dd, Nat.le_trans c.ln h, Nat.le_trans c.lw h, c.vn, c.vw, c.nt, c.wk, c.df⟩
theorem putK_len {kvs : List (Key × V)} {k : Key} {v : V} : (putK kvs k v).length ≤ kvs.length + 1 := by
  unfold putK
  split
  · rw [List.length_map]; omega
  · rw [List.length_append]; simp
/-- a net is put into a slot -/
theorem WIs.putN (c : WIs K A ρ H a W x n) (t : Trk ρ H) {s i : Nat} (hs : s < 2) (hi : W.heap.length = i) {N : MNet} {D : Addr} {cs : List Addr} (hN : NetIs K A ρ H i D cs N) (hw : ∀ p j, W.nets p = some j → j < W.heap.length) (hk : ∀ t m, W.walks t = some m → m.net < W.heap.length) :
    WIs K A ρ (L2.upd H x.dn (.dK (putK x.kn (kI s) (.ref D)))) a ⟨W.heap ++ [N], upN W.nets s (some i), W.walks⟩ { x with kn := putK x.kn (kI s) (.ref D), na := fun j => if j = i then D else x.na j, ca := fun j => if j = i then cs else x.ca j } (n + 1) where
  o := by
    show (L2.upd H x.dn _) a = _
    rw [upd_ne (fun z => by have e := c.o; rw [z, c.hn] at e; cases e)]
    exact c.o
  no := c.no
  hn := upd_same
  hw := by
    show (L2.upd H x.dn _) x.dw = _
    rw [upd_ne (fun z => c.dd z.symm)]
    exact c.hw
  dd := c.dd
  ln := Nat.le_trans putK_len (Nat.succ_le_succ c.ln)
  lw := Nat.le_succ_of_le c.lw
  vn := fun p hp => by
    show valV (putK x.kn (kI s) (.ref D)) (kI p) = (upN W.nets s (some i) p).map fun j => V.ref (if j = i then D else x.na j)
    rw [valV_put]
    by_cases h : p = s
    · subst h
      rw [if_pos rfl, upN_same]
      show some (V.ref D) = some (V.ref (if i = i then D else x.na i))
      rw [if_pos rfl]
    · rw [if_neg (fun z => h (kI_inj z)), upN_ne h, c.vn p hp]
      cases e : W.nets p with
      | none => rfl
      | some j =>
        have := hw p j e
        show some (V.ref (x.na j)) = some (V.ref (if j = i then D else x.na j))
        rw [if_neg (by omega)]
  vw := c.vw
  nt := fun j M h => by
    have hq : ρ x.dn = none := t.norole c.hn fun f => f
    have h : (W.heap ++ [N])[j]? = some M := h
    show NetIs K A ρ _ j (if j = i then D else x.na j) (if j = i then cs else x.ca j) M
    by_cases hj : j = i
    · subst hj
      rw [if_pos rfl, if_pos rfl]
      rw [List.getElem?_append_right (by omega), hi, Nat.sub_self] at h
      cases h
      exact hN.upd hq c.hn NotC.dk
    · rw [if_neg hj, if_neg hj]
      have hl : j < W.heap.length := by
        have := (List.getElem?_eq_some_iff.mp h).1
        rw [List.length_append, List.length_singleton] at this
        omega
      rw [List.getElem?_append_left hl] at h
      exact (c.nt j M h).upd hq c.hn NotC.dk
  wk := fun t' ht m hm => by
    obtain ⟨cp, h1, h2, h3⟩ := c.wk t' ht m hm
    have := hk t' m hm
    refine ⟨cp, ?_, ?_, h3⟩
    · show (if m.net = i then cs else x.ca m.net)[m.cir]? = some cp
      rw [if_neg (by omega)]
      exact h1
    · show (L2.upd H x.dn _) (x.wa t') = _
      rw [upd_ne (fun z => by rw [z, c.hn] at h2; cases h2)]
      exact h2
  df := c.df
/-- a walk is put into a slot -/
theorem WIs.putW (c : WIs K A ρ H a W x n) (t : Trk ρ H) {s : Nat} (hs : s < 2) {D dD cp : Addr} {m : MWlk} (hD : H D = some (.ins A.c_W dD (walkF cp m.ended))) (nD : ρ D = none) (hcp : (x.ca m.net)[m.cir]? = some cp) (hf : ∀ r m', r < 2 → r ≠ s → W.walks r = some m' → x.wa r ≠ D) :
    WIs K A ρ (L2.upd H x.dw (.dK (putK x.kw (kI s) (.ref D)))) a { W with walks := upN W.walks s (some m) } { x with kw := putK x.kw (kI s) (.ref D), wa := fun r => if r = s then D else x.wa r, wd := fun r => if r = s then dD else x.wd r } (n + 1) where
  o := by
    show (L2.upd H x.dw _) a = _
    rw [upd_ne (fun z => by have e := c.o; rw [z, c.hw] at e; cases e)]
    exact c.o
  no := c.no
  hn := by
    show (L2.upd H x.dw _) x.dn = _
    rw [upd_ne c.dd]
    exact c.hn
  hw := upd_same
  dd := c.dd
  ln := Nat.le_succ_of_le c.ln
  lw := Nat.le_trans putK_len (Nat.succ_le_succ c.lw)
  vn := c.vn
  vw := fun r hr => by
    show valV (putK x.kw (kI s) (.ref D)) (kI r) = (upN W.walks s (some m) r).map fun _ => V.ref (if r = s then D else x.wa r)
    rw [valV_put]
    by_cases h : r = s
    · subst h
      rw [if_pos rfl, upN_same]
      show some (V.ref D) = some (V.ref (if r = r then D else x.wa r))
      rw [if_pos rfl]
    · rw [if_neg (fun z => h (kI_inj z)), upN_ne h, c.vw r hr, if_neg h]
  nt := fun j M h => (c.nt j M h).upd (t.norole c.hw fun f => f) c.hw NotC.dk
  wk := fun r hr m' hm => by
    have hm : upN W.walks s (some m) r = some m' := hm
    by_cases h : r = s
    · subst h
      rw [upN_same] at hm
      cases hm
      refine ⟨cp, hcp, ?_, ?_⟩
      · show (L2.upd H x.dw _) (if r = r then D else x.wa r) = some (.ins A.c_W (if r = r then dD else x.wd r) _)
        rw [if_pos rfl, if_pos rfl, upd_ne (fun z => by rw [z, c.hw] at hD; cases hD)]
        exact hD
      · show ρ (if r = r then D else x.wa r) = none
        rw [if_pos rfl]
        exact nD
    · rw [upN_ne h] at hm
      obtain ⟨cp', h1, h2, h3⟩ := c.wk r hr m' hm
      refine ⟨cp', h1, ?_, ?_⟩
      · show (L2.upd H x.dw _) (if r = s then D else x.wa r) = some (.ins A.c_W (if r = s then dD else x.wd r) _)
        rw [if_neg h, if_neg h, upd_ne (fun z => by rw [z, c.hw] at h2; cases h2)]
        exact h2
      · show ρ (if r = s then D else x.wa r) = none
        rw [if_neg h]
        exact h3
  df := fun r t' m1 m2 hr ht hne h1 h2 => by
    have h1 : upN W.walks s (some m) r = some m1 := h1
    have h2 : upN W.walks s (some m) t' = some m2 := h2
    show (if r = s then D else x.wa r) ≠ (if t' = s then D else x.wa t')
    by_cases e1 : r = s
    · have e2 : t' ≠ s := fun z => hne (e1.trans z.symm)
      rw [if_pos e1, if_neg e2]
      rw [upN_ne e2] at h2
      exact fun z => hf t' m2 ht e2 h2 z.symm
    · rw [if_neg e1]
      rw [upN_ne e1] at h1
      by_cases e2 : t' = s
      · rw [if_pos e2]
        exact hf r m1 hr e1 h1
      · rw [if_neg e2]
        rw [upN_ne e2] at h2
        exact c.df r t' m1 m2 hr ht hne h1 h2
/-- a walk is over, or not -/
theorem WIs.updW (c : WIs K A ρ H a W x n) (t : Trk ρ H) {s : Nat} (hs : s < 2) {m : MWlk} {cp : Addr} (hm : W.walks s = some m) (hcp : (x.ca m.net)[m.cir]? = some cp) (b : Bool) :
    WIs K A ρ (L2.upd H (x.wa s) (.ins A.c_W (x.wd s) (walkF cp b))) a { W with walks := upN W.walks s (some { m with ended := b }) } x n := by
  obtain ⟨cp', h1, hD, nD⟩ := c.wk s hs m hm
  have ecp : cp' = cp := Option.some.inj (h1.symm.trans hcp)
  subst ecp
  exact {
    o := by rw [upd_ne (fun z => by have e := c.o; rw [z, hD] at e; exact lib_ne_walk (Option.some.inj e).symm)]; exact c.o
    no := c.no
    hn := by rw [upd_ne (fun z => by have e := c.hn; rw [z, hD] at e; cases e)]; exact c.hn
    hw := by rw [upd_ne (fun z => by have e := c.hw; rw [z, hD] at e; cases e)]; exact c.hw
    dd := c.dd
    ln := c.ln
    lw := c.lw
    vn := c.vn
    vw := fun r hr => by
      show valV x.kw (kI r) = (upN W.walks s (some { m with ended := b }) r).map fun _ => V.ref (x.wa r)
      by_cases h : r = s
      · subst h
        rw [upN_same, c.vw r hr, hm]; rfl
      · rw [upN_ne h]
        exact c.vw r hr
    nt := fun j M h => (c.nt j M h).upd nD hD NotC.walk
    wk := fun r hr m' hm' => by
      have hm' : upN W.walks s (some { m with ended := b }) r = some m' := hm'
      by_cases h : r = s
      · subst h
        rw [upN_same] at hm'
        cases hm'
        exact ⟨cp', hcp, upd_same, nD⟩
      · rw [upN_ne h] at hm'
        obtain ⟨c2, k1, k2, k3⟩ := c.wk r hr m' hm'
        exact ⟨c2, k1, by rw [upd_ne (c.df r s m' m hr hs h hm' hm)]; exact k2, k3⟩
    df := fun r t' m1 m2 hr ht hne h1 h2 => by
      have g : ∀ r m', upN W.walks s (some { m with ended := b }) r = some m' → ∃ m'', W.walks r = some m'' := fun r m' h => by
        by_cases e : r = s
        · subst e; exact ⟨m, hm⟩
        · rw [upN_ne e] at h; exact ⟨m', h⟩
      obtain ⟨m3, k3⟩ := g r m1 h1
      obtain ⟨m4, k4⟩ := g t' m2 h2
      exact c.df r t' m3 m4 hr ht hne k3 k4 }
end
end Rl
end
section
set_option Elab.async false
set_option linter.all false
set_option maxRecDepth 100000
set_option maxHeartbeats 4000000
/-! RlD6: Library.call. -/
namespace Rl
open PySem PySem.Spec PyProof.Rows L2

/-! ### lengths and growth -/
def MOk (n : Nat) (L : List ML) (r : MRes) : Prop := ∀ v L', r = .ok (v, L') → L'.length = L.length ∧ CBd (n + 1000) L'
theorem MOk.err {n : Nat} {L : List ML} {e : Int × Str} : MOk n L (.error e) := fun _ _ h => by cases h
theorem MOk.side {n : Nat} {L : List ML} {v : RWire.Value} {nm : Str} {f : Bool → MRes} (h : ∀ s, MOk n L (f s)) : MOk n L (sideM v nm f) := by
  unfold sideM
  split
  · exact h _
  · exact .err
theorem MOk.num {n : Nat} {L : List ML} {v : RWire.Value} {nm : Str} {a b : Nat} {f : Nat → MRes} (h : ∀ s, MOk n L (f s)) : MOk n L (numM v nm a b f) := by
  unfold numM
  split
  · exact h _
  · exact .err
theorem MOk.ref {n : Nat} {L : List ML} {o : Option R7251g.Spec.Refusal} {r : MRes} (h : MOk n L r) : MOk n L (refM o r) := by
  unfold refM
  split
  · exact .err
  · exact h
theorem MOk.ok {n : Nat} {L L' : List ML} {v : RWire.Value} (h : L'.length = L.length) (b : CBd (n + 1000) L') : MOk n L (.ok (v, L')) := fun _ _ e => by cases e; exact ⟨h, b⟩
theorem runC_length {w : Nat} : ∀ {j : Nat} {L : List ML}, (runC w j L).2.length = L.length
  | 0, _ => rfl
  | j + 1, L => by
    unfold runC
    split
    · rw [runC_length, doC_length]
    · rfl
theorem runC_le {w : Nat} : ∀ {j : Nat} {L : List ML}, (runC w j L).1 ≤ j
  | 0, _ => Nat.le_refl _
  | j + 1, L => by
    unfold runC
    split
    · exact Nat.succ_le_succ runC_le
    · exact Nat.zero_le _
theorem doorM_ok {n w d : Nat} {a : Nat → RWire.Value} {L : List ML} (b : CBd n L) (hn : 1 ≤ n) : MOk n L (doorM w d a L) := by
  have same : ∀ v, MOk n L (.ok (v, L)) := fun v => .ok rfl (b.mono (by omega))
  have one : ∀ v L', L'.length = L.length → CBd (n + 1) L' → MOk n L (.ok (v, L')) := fun v L' h c => .ok h (c.mono (by omega))
  unfold doorM
  split
  · unfold termM
    split
    · refine .side fun s => .num fun m => ?_
      split
      · exact .err
      · exact .ref (one _ _ (sendC_length _ _ _ _) (b.send hn _ _ _))
    · exact .side fun s => .num fun m => .ref (one _ _ (sendC_length _ _ _ _) (b.send hn _ _ _))
    · refine .side fun s => ?_
      split
      · exact same _
      · exact one _ _ (readC_length _ _ _) (b.read hn _ _)
    · refine .side fun s => ?_
      split
      · exact same _
      · exact one _ _ (readC_length _ _ _) (b.read hn _ _)
    · exact .side fun s => same _
    · exact .side fun s => same _
    · exact .side fun s => same _
  · unfold circM
    split
    · exact .num fun m => .side fun s => .ref (one _ _ (fwdC_length _ _ _ _) (b.fwd _ _ _ hn))
    · exact .num fun m => .side fun s => .ref (one _ _ (fwdC_length _ _ _ _) (b.fwd _ _ _ hn))
    · refine .num fun m => .side fun s => ?_
      split
      · exact same _
      · exact one _ _ (deliverC_length _ _ _) (b.deliver _ _)
    · exact .num fun m => one _ _ (resetC_length _ _) (b.resetC _)
    · unfold runM numM
      split
      · rename_i h
        obtain ⟨m, _, _, hm, e⟩ := intV_get h
        rw [e]
        exact .ok runC_length ((CBd.run b hn).mono (by omega))
      · exact .err
    · exact .num fun m => same _
theorem WOk.mono {W : MW} {n k : Nat} (h : WOk W n) (l : n ≤ k) : WOk W k := ⟨Nat.le_trans h.p l, h.s, h.w, fun N hN => (h.c N hN).mono l⟩
theorem WOk.set {W : MW} {n k i : Nat} {N N' : MNet} (h : WOk W n) (l : n ≤ k) (hi : W.heap[i]? = some N) (hN : NOk k N') (hl : N'.cs.length = N.cs.length) : WOk (W.setNet i N') k := by
  refine ⟨Nat.le_trans h.p l, fun p j e => ?_, fun t m e => ?_, fun M hM => ?_⟩
  · show j < (W.heap.set i N').length
    rw [List.length_set]
    exact h.s p j e
  · obtain ⟨M, h1, h2⟩ := h.w t m e
    show ∃ M, (W.heap.set i N')[m.net]? = some M ∧ m.cir < M.cs.length
    by_cases hj : m.net = i
    · rw [hj, hi] at h1
      cases h1
      refine ⟨N', ?_, by rw [hl]; exact h2⟩
      rw [hj, List.getElem?_set, if_pos rfl, if_pos (List.getElem?_eq_some_iff.mp hi).1]
    · exact ⟨M, by rw [List.getElem?_set_ne (fun z => hj z.symm)]; exact h1, h2⟩
  · rcases List.mem_or_eq_of_mem_set hM with q | q
    · exact (h.c M q).mono l
    · rw [q]; exact hN

theorem WOk.new {W : MW} {n k s : Nat} {N : MNet} (h : WOk W n) (l : n ≤ k) (hN : NOk k N) : WOk ⟨W.heap ++ [N], upN W.nets s (some W.heap.length), W.walks⟩ k := by
  refine ⟨Nat.le_trans h.p l, fun p j e => ?_, fun t m e => ?_, fun M hM => ?_⟩
  · show j < (W.heap ++ [N]).length
    rw [List.length_append, List.length_singleton]
    have e : upN W.nets s (some W.heap.length) p = some j := e
    by_cases hp : p = s
    · rw [hp, upN_same] at e
      cases e
      omega
    · rw [upN_ne hp] at e
      have := h.s p j e
      omega
  · obtain ⟨M, h1, h2⟩ := h.w t m e
    exact ⟨M, by show (W.heap ++ [N])[m.net]? = _; rw [List.getElem?_append_left (List.getElem?_eq_some_iff.mp h1).1]; exact h1, h2⟩
  · have hM : M ∈ W.heap ++ [N] := hM
    rcases List.mem_append.mp hM with q | q
    · exact (h.c M q).mono l
    · rw [List.mem_singleton] at q
      rw [q]; exact hN
theorem WOk.walk {W : MW} {n k s : Nat} {m : MWlk} (h : WOk W n) (l : n ≤ k) (hm : ∃ N, W.heap[m.net]? = some N ∧ m.cir < N.cs.length) : WOk { W with walks := upN W.walks s (some m) } k := by
  refine ⟨Nat.le_trans h.p l, h.s, fun t m' e => ?_, fun M hM => (h.c M hM).mono l⟩
  have e : upN W.walks s (some m) t = some m' := e
  by_cases ht : t = s
  · rw [ht, upN_same] at e
    cases e
    exact hm
  · rw [upN_ne ht] at e
    exact h.w t m' e
theorem numM_eq {α : Type} {v : RWire.Value} {nm : Str} {a b : Nat} {f : Nat → Except (Int × Str) α} {y : α} (h : numM v nm a b f = .ok y) : ∃ n, a ≤ n ∧ n ≤ b ∧ f n = .ok y := by
  unfold numM at h
  split at h
  · rename_i hi
    obtain ⟨n, _, h1, h2, e⟩ := intV_get hi
    rw [e] at h
    exact ⟨n, h1, h2, h⟩
  · cases h
theorem optM_ok {v : RWire.Value} {n c w : Nat} (h : optM v = .ok (n, c, w)) : 2 ≤ n ∧ n ≤ 8 ∧ 1 ≤ c ∧ c ≤ 8 ∧ 1 ≤ w ∧ w ≤ 7 := by
  cases v with
  | record l =>
    have h : numM (memberV l (oN "nodes")) "nodes" 2 8 (fun n => numM (memberV l (oN "circuits")) "circuits" 1 8 fun c => numM (memberV l (oN "window")) "window" 1 7 fun w => .ok (n, c, w)) = .ok (n, c, w) := h
    obtain ⟨n', a1, a2, h⟩ := numM_eq h
    obtain ⟨c', b1, b2, h⟩ := numM_eq h
    obtain ⟨w', d1, d2, h⟩ := numM_eq h
    cases h
    exact ⟨a1, a2, b1, b2, d1, d2⟩
  | _ => cases h
def callF (K : PySem.W.Frag) (A : Adr) (ρ : Gh) (H : Hp) (a : Addr) (n : Nat) (Q : VK) (E : XK) : WRes → Prop
  | .error (o, z) => RfE K A H o z E
  | .ok (v, W') => ∀ ρ' H' x, Wfr K ρ ρ' H H' → WAt K A ρ' H' a W' (n + 1001) → VR K H' v x → Q x H'
def CallP (W : MW) (d : Nat) (av : Nat → RWire.Value) (F : WRes → Prop) : Prop :=
  (d = 0 ∧ ∃ s : Nat, av 0 = .int s ∧ s < 2 ∧ F (newM W s (av 1))) ∨
  (d = 16 ∧ ∃ (s t i : Nat) (N : MNet), av 0 = .int s ∧ s < 2 ∧ av 1 = .int t ∧ t < 2 ∧ W.nets t = some i ∧ W.heap[i]? = some N ∧ F (wnewM W s i N (av 2))) ∨
  (d = 17 ∧ ∃ (s : Nat) (m : MWlk) (N : MNet) (L : List ML), av 0 = .int s ∧ s < 2 ∧ W.walks s = some m ∧ W.heap[m.net]? = some N ∧ N.cs[m.cir]? = some L ∧ F (.ok (nextM W s m N L))) ∨
  (d = 18 ∧ ∃ (s : Nat) (m : MWlk), av 0 = .int s ∧ s < 2 ∧ W.walks s = some m ∧ F (.ok (retM W s m (av 1)))) ∨
  (∃ (s i : Nat) (N : MNet), av 0 = .int s ∧ s < 2 ∧ W.nets s = some i ∧ W.heap[i]? = some N ∧
    ((d = 9 ∧ F (restartM W i N (av 1))) ∨ (d = 15 ∧ F (.ok (vState N, W))) ∨ (1 ≤ d ∧ d ≤ 14 ∧ d ≠ 9 ∧ F (circDoor W i N (av 1) (doorM N.w d av)))))
def spBcall (K : PySem.W.Frag) (A : Adr) : Sp := fun vs H Q E => ∃ (ρ : Gh) (a : Addr) (W : MW) (n d : Nat) (g : Addr) (xs : List V) (av : Nat → RWire.Value), vs = [.ref a, .int d, .ref g] ∧ WAt K A ρ H a W n ∧ n < 12000000 ∧ Given K H g xs av ∧ CallP W d av (callF K A ρ H a n Q E)
def spBinit (A : Adr) : Sp := fun vs H Q _ => ∃ (a dx : Addr), vs = [.ref a] ∧ H a = some (.ins A.c_B dx []) ∧ ∀ H' dn dw, H dn = none → H dw = none → dn ≠ dw → H' a = some (.ins A.c_B dx (libF dn dw)) → H' dn = some (.dK []) → H' dw = some (.dK []) → (∀ b, b ≠ a → b ≠ dn → b ≠ dw → H' b = H b) → Q .non H'
section
variable {K : PySem.W.Frag} {A : Adr} {ρ : Gh} {H : Hp} {a p : Addr} {W : MW} {n i k : Nat} {Q : VK} {E : XK} {N : MNet} {r : MRes}
theorem onCirc_out {x : WA} (ht : Trk ρ H) (ok : WOk W n) (w : WIs K A ρ H a W x n) (hi : W.heap[i]? = some N) (hk : k < N.cs.length) (hp : (x.ca i)[k]? = some p) (m : MOk n N.cs[k] r) (q : callF K A ρ H a n Q E (onCirc W i N k r)) : outM K A ρ H (i, k) p N.w Q E r := by
  cases r with
  | error e => exact q
  | ok y =>
    obtain ⟨v, L'⟩ := y
    intro ρ' H' z s c hz
    obtain ⟨ml, mb⟩ := m v L' rfl
    have hN := ok.c N (List.mem_of_getElem? hi)
    refine q ρ' H' z (Wfr.stp s) ⟨s.trk, (ok.set (by omega) hi ((hN.mono (by omega)).withC hk ml mb) (by show (N.cs.set k L').length = _; rw [List.length_set])).mono (by omega : n + 1000 ≤ n + 1001), ⟨x, ?_⟩⟩ hz
    refine w.step s (W.heap.set i (N.withC k L')) (fun j M h => ?_) (by omega)
    by_cases hj : j = i
    · subst hj
      rw [List.getElem?_set, if_pos rfl, if_pos (List.getElem?_eq_some_iff.mp hi).1] at h
      cases h
      exact (w.nt j N hi).set s hp c
    · rw [List.getElem?_set_ne (fun z => hj z.symm)] at h
      exact (w.nt j M h).stp s fun z hz hz' => hj (hz.symm.trans hz'.1)
end
section
variable {P : Program} {w : World} {K : PySem.W.Frag} {mg : Str → Option Value} {base : Heap} {A : Adr}
theorem ok_B_init (T : Txt K mg A) : Ok P w K mg base CX0 1 A.f_B_init p_B_init (spBinit A) := by
  refine ok_of T.F_B_init sc_B_init (fun vs H Q E h => ?_) (fun cdv A' outer s H vs Q E hr h => ?_)
  · obtain ⟨a, dx, rfl, _⟩ := h
    rfl
  · obtain ⟨a, dx, rfl, ha, q⟩ := h
    refine ⟨_, pss_cons (ps_fld (pv 0) pe_dnewK rfl) (pss_one (ps_fld (pv 0) pe_dnewK rfl)), ?_⟩
    intro dn hdn
    have nan : a ≠ dn := ne_of_none ha hdn
    refine ⟨_, rfl, a, _, dx, _, rfl, by rw [upd_ne nan]; exact ha, T.cl_B, T.a_B_nets, (by decide), ?_⟩
    dsimp only
    refine fld_in ?_
    intro dw hdw
    have naw : a ≠ dw := fun z => by rw [← z, upd_same] at hdw; cases hdw
    have ndw : dn ≠ dw := fun z => by rw [← z, upd_ne (fun z => nan z.symm), upd_same] at hdw; cases hdw
    refine ⟨_, rfl, a, _, dx, _, rfl, by rw [upd_ne naw, upd_same], T.cl_B, T.a_B_walks, few_le (few_put few0), ?_⟩
    rw [libF_new]
    refine q _ dn dw hdn (by rw [upd_ne (fun z => naw z.symm), upd_ne (fun z => ndw z.symm)] at hdw; exact hdw) ndw upd_same ?_ ?_ fun b h1 h2 h3 => ?_
    · rw [upd_ne (fun z => nan z.symm), upd_ne ndw, upd_ne (fun z => nan z.symm), upd_same]
    · rw [upd_ne (fun z => naw z.symm), upd_same]
    · rw [upd_ne h1, upd_ne h3, upd_ne h1, upd_ne h2]
theorem ok_B_call (T : Txt K mg A) : Ok P w K mg base (L2N.CX P w) 8 A.f_B_call p_B_call (spBcall K A) := by
  have Go := ok_circuits_of (P := P) (w := w) (base := base) T
  have Gw := ok_W_init (P := P) (w := w) (base := base) T
  have Gc := ok_B_circuit_of (P := P) (w := w) (base := base) T
  have Gow := ok_on_walk (P := P) (w := w) (base := base) T
  have Gr := ok_B_restart (P := P) (w := w) (base := base) T
  have Gs := ok_B_told_state (P := P) (w := w) (base := base) T
  have Gt := ok_on_terminal (P := P) (w := w) (base := base) T
  have Gi := ok_on_circuit (P := P) (w := w) (base := base) T
  refine okX_of T.F_B_call sc_B_call (fun vs H Q E h => ?_) (fun cdv A' outer s H vs Q E hr h => ?_)
  · obtain ⟨ρ, a, W, n, d, g, xs, av, rfl, _⟩ := h
    rfl
  · obtain ⟨ρ, a, W, n, d, g, xs, av, rfl, ⟨ht, ok, ⟨x, wi⟩⟩, hn, hg, q⟩ := h
    have hu := Nat.lt_trans (Nat.add_lt_add_left (show 1 < 64 by decide) _) hr.units
    refine ⟨_, pss_cons (ps_set (i := 3) sc_B_call.nd rfl (Or.inl rfl) (pe_ix ix_tup (pe_ix ix_list (pv 2) pe_int (fun _ _ => rfl)) pe_int (fun _ _ => rfl)))
      (pss_cons (ps_if (pt_cmpR op_eq (pv 1) pe_int (nomark _))
        (pss_cons (ps_dput hu (pe_fld (pv 0) rfl) (pv 3) (fn_callX Go T.g_circuits_of hr (L2N.takes_of rfl rfl rfl rfl) (fun _ _ _ _ h => h) (pa_cons (pe_ix ix_list (pv 2) pe_int (fun _ _ => rfl)) pa_nil)) rfl)
        (pss_one (ps_ret (pe_glob (v := .ref A.t_NOTHING) rfl T.v_NOTHING rfl)))) pss_nil)
      (pss_cons (ps_if (pt_cmpR op_eq (pv 1) pe_int (nomark _))
        (pss_cons (ps_dput hu (pe_fld (pv 0) rfl) (pv 3) (fn_make T.mk_W Gw T.gc_W hr (pa_cons (fn_methX Gc T.cl_B T.m_B_circuit_of hr (L2N.takes_of rfl rfl rfl rfl) (fun _ _ _ _ h => h) (pv 0)
            (pa_cons (pe_dget hu (pe_fld (pv 0) rfl) (pe_ix ix_tup (pe_ix ix_list (pv 2) pe_int (fun _ _ => rfl)) pe_int (fun _ _ => rfl)) (fun _ _ => rfl)) (pa_cons (pe_ix ix_list (pv 2) pe_int (fun _ _ => rfl)) pa_nil))) pa_nil)) rfl)
        (pss_one (ps_ret (pe_glob (v := .ref A.t_NOTHING) rfl T.v_NOTHING rfl)))) pss_nil)
      (pss_cons (ps_if (pt_cmpR op_gt (pv 1) pe_int (nomark _))
        (pss_one (ps_ret (fn_call Gow T.g_on_walk hr (pa_cons (pe_dget hu (pe_fld (pv 0) rfl) (pv 3) (fun _ _ => rfl)) (pa_cons (pv 1) (pa_cons (pv 2) pa_nil)))))) pss_nil)
      (pss_cons (ps_set (i := 4) sc_B_call.nd rfl (Or.inl rfl) (pe_dget hu (pe_fld (pv 0) rfl) (pv 3) (fun _ _ => rfl)))
      (pss_cons (ps_if (pt_cmpR op_eq (pv 1) pe_int (nomark _))
        (pss_one (ps_ret (fn_methX Gr T.cl_B T.m_B_restart hr (L2N.takes_of rfl rfl rfl rfl) (fun _ _ _ _ h => h) (pv 0) (pa_cons (pv 4) (pa_cons (pe_ix ix_list (pv 2) pe_int (fun _ _ => rfl)) pa_nil))))) pss_nil)
      (pss_cons (ps_if (pt_cmpR op_eq (pv 1) pe_int (nomark _))
        (pss_one (ps_ret (fn_meth Gs T.cl_B T.m_B_told_state hr (pv 0) (pa_cons (pv 4) pa_nil)))) pss_nil)
      (pss_cons (ps_set (i := 5) sc_B_call.nd rfl (Or.inl rfl) (fn_methX Gc T.cl_B T.m_B_circuit_of hr (L2N.takes_of rfl rfl rfl rfl) (fun _ _ _ _ h => h) (pv 0) (pa_cons (pv 4) (pa_cons (pe_ix ix_list (pv 2) pe_int (fun _ _ => rfl)) pa_nil))))
      (pss_cons (ps_if (PW.pt (pw_or (pt_cmpR op_lt (pv 1) pe_int (nomark _)) (pw_or1 (pt_chain op_le op_le pe_int (pv 1) pe_int))))
        (pss_one (ps_ret (fn_callX Gt T.g_on_terminal hr (L2N.takes_of rfl rfl rfl rfl) (fun _ _ _ _ h => h) (pa_cons (pv 5) (pa_cons (pe_op op_sub (pv 1) pe_int) (pa_cons (pv 2) pa_nil)))))) pss_nil)
      (pss_one (ps_ret (fn_callX Gi T.g_on_circuit hr (L2N.takes_of rfl rfl rfl rfl) (fun _ _ _ _ h => h) (pa_cons (pv 5) (pa_cons (pe_op op_sub (pv 1) pe_int) (pa_cons (pv 2) pa_nil)))))))))))))), ?_⟩
    have nothing : ∀ H2, VR K H2 .nothing (.ref A.t_NOTHING) := fun H2 => by
      unfold VR
      exact ⟨_, rfl, T.w_NOTHING.at _⟩
    obtain ⟨x0, e0, v0⟩ := hg.v 0 (by decide)
    obtain ⟨x1, e1, v1⟩ := hg.v 1 (by decide)
    obtain ⟨x2, e2, v2⟩ := hg.v 2 (by decide)
    have ndn : ρ x.dn = none := ht.norole wi.hn fun f => f
    have ndw : ρ x.dw = none := ht.norole wi.hw fun f => f
    rcases q with ⟨rfl, s, ha0, hs, q⟩ | ⟨rfl, s, t, i, N, ha0, hs, ha1, htt, hnt, hN, q⟩ | ⟨rfl, s, m, N, L, ha0, hs, hm, hN, hL, q⟩ | ⟨rfl, s, m, ha0, hs, hm, q⟩ | ⟨s, i, N, ha0, hs, hnt, hN, q⟩
    · -- a new net
      rw [ha0] at v0
      unfold VR at v0
      obtain ⟨p0, rfl, h0⟩ := v0
      refine ⟨_, rfl, g, xs, 0, _, rfl, rfl, hg.l, atI_nat e0, p0, _, 1, .int (s : Nat), rfl, rfl, h0, atI_nat (j := 1) rfl, ?_⟩
      refine ⟨_, rfl, rfl, _, rfl, if_yes rfl ?_⟩
      refine ⟨_, rfl, g, xs, 1, x1, rfl, rfl, hg.l, atI_nat e1, ρ, W.heap.length, x1, av 1, rfl, ht, v1, ?_⟩
      unfold newM at q
      cases ho : optM (av 1) with
      | error e =>
        rw [ho] at q
        exact q
      | ok y =>
        obtain ⟨nn, c, wd⟩ := y
        rw [ho] at q
        have q : ∀ ρ' H' x, Wfr K ρ ρ' H H' → WAt K A ρ' H' a ⟨W.heap ++ [⟨wd, List.replicate c (List.replicate (nn - 1) ML.fresh)⟩], upN W.nets s (some W.heap.length), W.walks⟩ (n + 1001) → VR K H' .nothing x → Q x H' := q
        obtain ⟨n1, n2, c1, c2, w1, w2⟩ := optM_ok ho
        intro ρ' H' D cs st nD hD hcs hcir
        have w1' := wi.step st W.heap (fun j M h => (wi.nt j M h).stp st fun _ _ f => f) (Nat.le_refl n)
        refine ⟨_, rfl, a, _, x.dx, _, _, rfl, w1'.o, T.cl_B, T.a_B_nets, libF_nets, _, rfl, x.dn, _, rfl, DPut.k (k := kI s) w1'.hn (sz_lt' (by have := wi.ln; omega)), ?_⟩
        refine q ρ' _ _ ((Wfr.stp st).trans (Wfr.upd w1'.hn (NotC.dk (A := A)))) ⟨st.trk.upd (st.trk.norole w1'.hn fun f => f), ?_, _, (w1'.putN st.trk hs rfl (N := ⟨wd, List.replicate c (List.replicate (nn - 1) ML.fresh)⟩) ⟨hD, nD, by rw [hcs]; exact List.length_replicate.symm, fun j p L h1 h2 => ?_⟩ ok.s fun t m h => ?_).mono (by omega)⟩ (nothing _)
        · exact ok.new (by omega) ⟨by show 1 ≤ (List.replicate _ _).length; rw [List.length_replicate]; exact c1, by show (List.replicate _ _).length ≤ 8; rw [List.length_replicate]; exact c2, nn - 1, by omega, by omega, fun M hM => by
            rw [List.eq_of_mem_replicate hM]
            exact ⟨List.length_replicate, fun m hm => by rw [List.eq_of_mem_replicate hm]; exact Bd.fresh (by omega)⟩⟩
        · have h2 : (List.replicate c (List.replicate (nn - 1) ML.fresh))[j]? = some L := h2
          rw [List.getElem?_replicate] at h2
          split at h2
          · cases h2
            exact hcir j p h1
          · cases h2
        · obtain ⟨M, hM, _⟩ := ok.w t m h
          exact (List.getElem?_eq_some_iff.mp hM).1
    · -- a new walk
      rw [ha0] at v0
      unfold VR at v0
      obtain ⟨p0, rfl, h0⟩ := v0
      rw [ha1] at v1
      unfold VR at v1
      obtain ⟨p1, rfl, h1⟩ := v1
      refine ⟨_, rfl, g, xs, 0, _, rfl, rfl, hg.l, atI_nat e0, p0, _, 1, .int (s : Nat), rfl, rfl, h0, atI_nat (j := 1) rfl, ?_⟩
      refine ⟨_, rfl, rfl, _, rfl, if_no rfl ?_⟩
      refine ⟨_, rfl, rfl, _, rfl, if_yes rfl ?_⟩
      have hget := wi.vn t htt
      rw [hnt] at hget
      refine ⟨_, rfl, a, x.dx, _, rfl, wi.o, libF_no (by decide +kernel), _, rfl, a, _, x.dx, _, _, rfl, wi.o, T.cl_B, T.a_B_nets, libF_nets, _, rfl, g, xs, 1, _, rfl, rfl, hg.l, atI_nat e1, p1, _, 1, .int (t : Nat), rfl, rfl, h1, atI_nat (j := 1) rfl, x.dn, .ref (x.na i), rfl, by have k := DGet.k (k := kI t) wi.hn; rw [hget] at k; exact k, ?_⟩
      refine ⟨_, rfl, g, xs, 2, x2, rfl, rfl, hg.l, atI_nat e2, ρ, i, a, x.na i, x.ca i, N, n, x2, av 2, rfl, wi.nt i N hN, ok.c N (List.mem_of_getElem? hN), v2, fun k cp ek hk hcp => ?_, fun hbad => ?_⟩
      · have hN1 := (ok.c N (List.mem_of_getElem? hN)).1
        unfold wnewM at q
        rw [numM_yes ek (Nat.zero_le _) (by omega)] at q
        have q : ∀ ρ' H' x, Wfr K ρ ρ' H H' → WAt K A ρ' H' a { W with walks := upN W.walks s (some ⟨i, k, false⟩) } (n + 1001) → VR K H' .nothing x → Q x H' := q
        intro wa wd nwa nwd nne
        refine ⟨wa, cp, wd, rfl, upd_same, fun H2 h2 fr => ⟨rfl, ?_⟩⟩
        have s2 : Same H H2 := fun b u hb => by
          rw [fr b (ne_of_none hb nwa), upd_ne (ne_of_none hb nwa), upd_ne (ne_of_none hb nwd)]
          exact hb
        have w2 := wi.same ht s2
        refine ⟨_, rfl, a, _, x.dx, _, _, rfl, w2.o, T.cl_B, T.a_B_walks, libF_walks, _, rfl, x.dw, _, rfl, DPut.k (k := kI s) w2.hw (sz_lt' (by have := wi.lw; omega)), ?_⟩
        have ht2 := ht.same s2
        refine q ρ _ _ ((Wfr.same ht s2).trans (Wfr.upd w2.hw (NotC.dk (A := A)))) ⟨ht2.upd (ht2.norole w2.hw fun f => f), ?_, _, (w2.putW ht2 hs (m := ⟨i, k, false⟩) h2 (ht.free nwa) hcp fun r m' hr hne hm' => ?_).mono (by omega)⟩ (nothing _)
        · exact ok.walk (by omega) ⟨N, hN, hk⟩
        · obtain ⟨_, _, k2, _⟩ := wi.wk r hr m' hm'
          exact ne_of_none k2 nwa
      · unfold wnewM at q
        rw [numM_no hbad] at q
        exact q
    · -- a walk goes on
      rw [ha0] at v0
      unfold VR at v0
      obtain ⟨p0, rfl, h0⟩ := v0
      refine ⟨_, rfl, g, xs, 0, _, rfl, rfl, hg.l, atI_nat e0, p0, _, 1, .int (s : Nat), rfl, rfl, h0, atI_nat (j := 1) rfl, ?_⟩
      refine ⟨_, rfl, rfl, _, rfl, if_no rfl ?_⟩
      refine ⟨_, rfl, rfl, _, rfl, if_no rfl ?_⟩
      refine ⟨_, rfl, _, _, rfl, rfl, _, rfl, if_yes rfl ?_⟩
      have hget := wi.vw s hs
      rw [hm] at hget
      obtain ⟨cp, hcp, hD, nD⟩ := wi.wk s hs m hm
      have hNok := ok.c N (List.mem_of_getElem? hN)
      have hkl : m.cir < N.cs.length := (List.getElem?_eq_some_iff.mp hL).1
      have eL : N.cs[m.cir] = L := by rw [List.getElem?_eq_getElem hkl] at hL; exact Option.some.inj hL
      have hg1 := hNok.get hkl
      rw [eL] at hg1
      have hnet := wi.nt m.net N hN
      refine ⟨_, rfl, a, _, x.dx, _, _, rfl, wi.o, T.cl_B, T.a_B_walks, libF_walks, _, rfl, x.dw, .ref (x.wa s), rfl, by have k := DGet.k (k := kI s) wi.hw; rw [hget] at k; exact k, _, rfl, _, rfl, ?_⟩
      refine ⟨ρ, (m.net, m.cir), x.wa s, x.wd s, cp, m.ended, N.w, L, n, 17, g, xs, av, rfl, hD, nD, ht, hnet.c m.cir cp L hcp hL, hg1.2.2, ok.p, by omega, by omega, hg, .inr ⟨rfl, fun ρ' H1 H' z st hc sm hz => ?_⟩⟩
      have wlen : (walkL m.ended L N.w).length = L.length := by
        unfold walkL nextL
        split
        · rfl
        · split
          · exact doC_length _ _
          · rfl
      have wbd : CBd (n + 1) (walkL m.ended L N.w) := by
        unfold walkL
        split
        · exact hg1.2.2.mono (Nat.le_succ n)
        · exact hg1.2.2.nextL ok.p _
      have w1 := wi.step st (W.heap.set m.net (N.withC m.cir (walkL m.ended L N.w))) (fun j M h => by
        by_cases hj : j = m.net
        · subst hj
          rw [List.getElem?_set, if_pos rfl, if_pos (List.getElem?_eq_some_iff.mp hN).1] at h
          cases h
          exact hnet.set st hcp hc
        · rw [List.getElem?_set_ne (fun z => hj z.symm)] at h
          exact (wi.nt j M h).stp st fun z hz hz' => hj (hz.symm.trans hz'.1)) (Nat.le_refl n)
      have w2 := w1.updW st.trk hs hm hcp (walkE m.ended L N.w)
      have nD1 := st.role nD hD
      have ht2 := st.trk.upd (q := x.wa s) (o := .ins A.c_W (x.wd s) (walkF cp (walkE m.ended L N.w))) nD1
      have w3 := w2.same ht2 sm
      have ok1 := (ok.set (k := n + 1) (by omega) hN ((hNok.mono (Nat.le_succ n)).withC hkl (by rw [wlen, eL]) wbd) (by show (N.cs.set _ _).length = _; rw [List.length_set]))
      have ok2 := ok1.walk (s := s) (m := { m with ended := walkE m.ended L N.w }) (k := n + 1001) (by omega) ⟨N.withC m.cir (walkL m.ended L N.w), by
        show (W.heap.set m.net _)[m.net]? = _
        rw [List.getElem?_set, if_pos rfl, if_pos (List.getElem?_eq_some_iff.mp hN).1], by show m.cir < (N.cs.set _ _).length; rw [List.length_set]; exact hkl⟩
      have q : ∀ ρ' H' x, Wfr K ρ ρ' H H' → WAt K A ρ' H' a (nextM W s m N L).2 (n + 1001) → VR K H' (walkV m.ended L N.w) x → Q x H' := q
      exact q ρ' H' z (((Wfr.stp st).trans (Wfr.upd (st.keep hD nD) (NotC.walk (A := A)))).trans (Wfr.same ht2 sm)) ⟨ht2.same sm, ok2, _, w3.mono (by omega)⟩ hz
    · -- a walk is told to end
      rw [ha0] at v0
      unfold VR at v0
      obtain ⟨p0, rfl, h0⟩ := v0
      refine ⟨_, rfl, g, xs, 0, _, rfl, rfl, hg.l, atI_nat e0, p0, _, 1, .int (s : Nat), rfl, rfl, h0, atI_nat (j := 1) rfl, ?_⟩
      refine ⟨_, rfl, rfl, _, rfl, if_no rfl ?_⟩
      refine ⟨_, rfl, rfl, _, rfl, if_no rfl ?_⟩
      refine ⟨_, rfl, _, _, rfl, rfl, _, rfl, if_yes rfl ?_⟩
      have hget := wi.vw s hs
      rw [hm] at hget
      obtain ⟨cp, hcp, hD, nD⟩ := wi.wk s hs m hm
      obtain ⟨N, hN, hkl⟩ := ok.w s m hm
      have hNok := ok.c N (List.mem_of_getElem? hN)
      have hg1 := hNok.get hkl
      have hnet := wi.nt m.net N hN
      refine ⟨_, rfl, a, _, x.dx, _, _, rfl, wi.o, T.cl_B, T.a_B_walks, libF_walks, _, rfl, x.dw, .ref (x.wa s), rfl, by have k := DGet.k (k := kI s) wi.hw; rw [hget] at k; exact k, _, rfl, _, rfl, ?_⟩
      refine ⟨ρ, (m.net, m.cir), x.wa s, x.wd s, cp, m.ended, N.w, N.cs[m.cir], n, 18, g, xs, av, rfl, hD, nD, ht, hnet.c m.cir cp _ hcp (List.getElem?_eq_getElem hkl), hg1.2.2, ok.p, by omega, by omega, hg, .inl ⟨rfl, fun H' z sm hz => ?_⟩⟩
      have w2 := wi.updW ht hs hm hcp true
      have ht2 := ht.upd (q := x.wa s) (o := .ins A.c_W (x.wd s) (walkF cp true)) nD
      have w3 := w2.same ht2 sm
      have ok2 := ok.walk (s := s) (m := { m with ended := true }) (k := n + 1001) (by omega) ⟨N, hN, hkl⟩
      have q : ∀ ρ' H' x, Wfr K ρ ρ' H H' → WAt K A ρ' H' a (retM W s m (av 1)).2 (n + 1001) → VR K H' (vStep (av 1) true) x → Q x H' := q
      exact q ρ H' z ((Wfr.upd hD (NotC.walk (A := A))).trans (Wfr.same ht2 sm)) ⟨ht2.same sm, ok2, _, w3.mono (by omega)⟩ hz
    · -- doors of a net
      rw [ha0] at v0
      unfold VR at v0
      obtain ⟨p0, rfl, h0⟩ := v0
      have hNok := ok.c N (List.mem_of_getElem? hN)
      have hnet := wi.nt i N hN
      have hget := wi.vn s hs
      rw [hnt] at hget
      have dge : DGet H x.dn (.int (s : Nat)) (some (.ref (x.na i))) := by
        have k := DGet.k (k := kI s) wi.hn
        rw [hget] at k
        exact k
      refine ⟨_, rfl, g, xs, 0, _, rfl, rfl, hg.l, atI_nat e0, p0, _, 1, .int (s : Nat), rfl, rfl, h0, atI_nat (j := 1) rfl, ?_⟩
      have hd : 1 ≤ d ∧ d ≤ 15 := by
        rcases q with ⟨rfl, _⟩ | ⟨rfl, _⟩ | ⟨h1, h2, _⟩ <;> omega
      have wok : ∀ W', WOk W' n → WOk W' (n + 1001) := fun W' h => h.mono (by omega)
      refine ⟨_, rfl, rfl, _, rfl, if_no (decide_eq_false fun z => by have := V.int.inj z; omega) ?_⟩
      refine ⟨_, rfl, rfl, _, rfl, if_no (decide_eq_false fun z => by have := V.int.inj z; omega) ?_⟩
      refine ⟨_, rfl, _, _, rfl, rfl, _, rfl, if_no (decide_eq_false (by omega)) ?_⟩
      refine ⟨_, rfl, a, _, x.dx, _, _, rfl, wi.o, T.cl_B, T.a_B_nets, libF_nets, _, rfl, x.dn, .ref (x.na i), rfl, dge, ?_⟩
      rcases q with ⟨rfl, q⟩ | ⟨rfl, q⟩ | ⟨hd1, hd2, hd9, q⟩
      · -- restart
        refine ⟨_, rfl, rfl, _, rfl, if_yes rfl ?_⟩
        refine ⟨_, rfl, a, x.dx, _, rfl, wi.o, libF_no (by decide +kernel), _, rfl, _, rfl, g, xs, 1, x1, rfl, rfl, hg.l, atI_nat e1, ρ, i, a, x.na i, x.ca i, N, n, x1, av 1, rfl, ht, hnet, hNok, by omega, v1, fun k ek hk ρ' H' st hc => ?_, fun hbad => ?_⟩
        · unfold restartM at q
          rw [numM_yes ek (Nat.zero_le _) hk] at q
          have q : ∀ ρ' H' x, Wfr K ρ ρ' H H' → WAt K A ρ' H' a (W.setNet i { N with cs := N.cs.map fun L => resetC L k }) (n + 1001) → VR K H' .nothing x → Q x H' := q
          refine q ρ' H' _ (Wfr.stp st) ⟨st.trk, (ok.set (k := n + 1) (by omega) hN ?_ (by show (N.cs.map _).length = _; rw [List.length_map])).mono (by omega), _, wi.step (n' := n + 1001) st (W.heap.set i { N with cs := N.cs.map fun L => resetC L k }) (fun j M h => ?_) (by omega)⟩ (nothing _)
          · obtain ⟨h1, h2, l, l1, l2, h3⟩ := hNok
            refine ⟨by show 1 ≤ (N.cs.map _).length; rw [List.length_map]; exact h1, by show (N.cs.map _).length ≤ 8; rw [List.length_map]; exact h2, l, l1, l2, fun M hM => ?_⟩
            obtain ⟨L, hL, rfl⟩ := List.mem_map.mp hM
            exact ⟨by rw [resetC_length]; exact (h3 L hL).1, (h3 L hL).2.resetC k⟩
          · by_cases hj : j = i
            · subst hj
              rw [List.getElem?_set, if_pos rfl, if_pos (List.getElem?_eq_some_iff.mp hN).1] at h
              cases h
              exact hc
            · rw [List.getElem?_set_ne (fun z => hj z.symm)] at h
              exact (wi.nt j M h).stp st fun z hz hz' => hj (hz.symm.trans hz')
        · unfold restartM at q
          rw [numM_no hbad] at q
          exact q
      · -- state
        refine ⟨_, rfl, rfl, _, rfl, if_no rfl ?_⟩
        refine ⟨_, rfl, rfl, _, rfl, if_yes rfl ?_⟩
        refine ⟨_, rfl, a, x.dx, _, rfl, wi.o, libF_no (by decide +kernel), _, rfl, ρ, i, a, x.na i, x.ca i, N, n, rfl, ht, hnet, hNok, fun H' z sm hz => ?_⟩
        exact q ρ H' z (Wfr.same ht sm) ⟨ht.same sm, wok _ ok, _, (wi.same ht sm).mono (by omega)⟩ hz
      · -- one circuit
        refine ⟨_, rfl, rfl, _, rfl, if_no (decide_eq_false fun z => by have := V.int.inj z; omega) ?_⟩
        refine ⟨_, rfl, rfl, _, rfl, if_no (decide_eq_false fun z => by have := V.int.inj z; omega) ?_⟩
        refine ⟨_, rfl, a, x.dx, _, rfl, wi.o, libF_no (by decide +kernel), _, rfl, _, rfl, g, xs, 1, x1, rfl, rfl, hg.l, atI_nat e1, ρ, i, a, x.na i, x.ca i, N, n, x1, av 1, rfl, hnet, hNok, v1, fun k cp ek hk hcp => ?_, fun hbad => ?_⟩
        · unfold circDoor at q
          have h1 := hNok.1
          rw [numM_yes ek (Nat.zero_le _) (by omega)] at q
          have eg : N.cs.getD k [] = N.cs[k] := by rw [List.getD_eq_getElem?_getD, List.getElem?_eq_getElem hk]; rfl
          rw [eg] at q
          have hgk := hNok.get hk
          have out := onCirc_out ht ok wi hN hk hcp (doorM_ok (w := N.w) (d := d) (a := av) hgk.2.2 ok.p) q
          · have hcir := hnet.c k cp _ hcp (List.getElem?_eq_getElem hk)
            have ed : (d : Int) - 1 = ((d - 1 : Nat) : Int) := by omega
            have el : [V.ref cp, V.int ((d : Int) - 1), V.ref g] = [V.ref cp, V.int ((d - 1 : Nat) : Int), V.ref g] := by rw [ed]
            unfold doorM at out
            by_cases h5 : d < 5 ∨ (11 ≤ d ∧ d ≤ 13)
            · rw [if_pos h5] at out
              have run : tRet (tCall (spOnTerm K A) [] E (tCons (tVar 5) (tCons (tOp (rI0 fun i j => .int (i - j)) (tVar 1) (tC (.int 1))) (tCons (tVar 2) tNil)))) { nx := fun x H' => Q .non H', rt := Q } [some (.ref a), some (.int (d : Nat)), some (.ref g), some (.int (s : Nat)), some (.ref (x.na i)), some (.ref cp)] H :=
                ⟨_, rfl, _, rfl, _, _, rfl, rfl, _, rfl, ρ, (i, k), cp, N.w, N.cs[k], n, d - 1, g, xs, av, el, ht, hcir, by omega, hgk.2.2, by omega, hg, by omega, out⟩
              refine ⟨_, rfl, _, _, rfl, rfl, _, rfl, ?_⟩
              by_cases hlt : d < 5
              · refine if_yes (decide_eq_true (by omega)) ?_
                refine if_yes rfl ?_
                exact run
              · refine if_no (decide_eq_false (by omega)) ?_
                refine ⟨_, rfl, _, _, rfl, rfl, _, rfl, if_yes (decide_eq_true (by omega)) ?_⟩
                refine ⟨_, _, rfl, rfl, _, rfl, if_yes (decide_eq_true (by omega)) ?_⟩
                exact run
            · rw [if_neg h5] at out
              refine ⟨_, rfl, _, _, rfl, rfl, _, rfl, ?_⟩
              refine if_no (decide_eq_false (by omega)) ?_
              have run : tRet (tCall (spOnCirc K A) [] E (tCons (tVar 5) (tCons (tOp (rI0 fun i j => .int (i - j)) (tVar 1) (tC (.int 1))) (tCons (tVar 2) tNil)))) { nx := fun x H' => Q .non H', rt := Q } [some (.ref a), some (.int (d : Nat)), some (.ref g), some (.int (s : Nat)), some (.ref (x.na i)), some (.ref cp)] H :=
                ⟨_, rfl, _, rfl, _, _, rfl, rfl, _, rfl, ρ, (i, k), cp, N.w, N.cs[k], n, d - 1, g, xs, av, el, ht, hcir, by omega, by omega, hgk.2.2, ok.p, by omega, hg, by omega, out⟩
              by_cases h11 : 11 ≤ d
              · refine ⟨_, rfl, _, _, rfl, rfl, _, rfl, if_yes (decide_eq_true (by omega)) ?_⟩
                refine ⟨_, _, rfl, rfl, _, rfl, if_no (decide_eq_false (by omega)) ?_⟩
                exact run
              · refine ⟨_, rfl, _, _, rfl, rfl, _, rfl, if_no (decide_eq_false (by omega)) ?_⟩
                refine ⟨_, rfl, if_no rfl ?_⟩
                exact run
        · unfold circDoor at q
          rw [numM_no hbad] at q
          exact q
end
end Rl
end
section
set_option Elab.async false
set_option linter.all false
set_option maxRecDepth 100000
set_option maxHeartbeats 4000000
/-! RlH1: a comprehension over a text while an exception is being handled. -/
namespace Rl
open PySem PySem.Spec PyProof.Rows L2

section
variable {prog : Program} {w : World} {A : Around} {E : Value → Shared → Prop} {s : Shared}
/-- a text of plain signs is at its end -/
theorem signs_end {p e1 : Addr} {z : Str} {t : Tok} {i : Nat} {Q : Option Value → Shared → Prop} (hot : HotX.HotAt A e1 s.heap) (hp : e1 ≠ p) (st : s.heap.IsStrIter p "str_ascii_iterator" z t i) (hz : z.cps[i]? = none)
    (hQ : ∀ h', (∀ b o, b ≠ p → s.heap.get? b = some o → h'.get? b = some o) → Q none { s with heap := h' }) : wpAny (model prog w) A (pyNext (.ref p)) Q E s := by
  obtain ⟨ob, g1, g2, g3⟩ := id st
  obtain ⟨hh, oe, ve, k1, k2, k3⟩ := hot
  have g4 := F.args_str_ascii_iterator_next_1
  unfold pyNext
  refine wpAny_bind (wpAny_attempt ?_)
  refine wpAny_callSpecial?_slot (name := Str.ofString "__next__") st.typeIs F.slot_str_ascii_iterator_next ?_
  refine wpAny_call_entry F.slot_str_ascii_iterator_next st.typeIs F.entry_str_ascii_iterator_next ?_ (g4 _)
  show wpAny _ _ (field (.ref p) 0 >>= _) _ _ s
  refine wpAny_bind (wpAny_field g1 g3 (x := .str z t) rfl ?_)
  show wpAny _ _ (field (.ref p) 1 >>= _) _ _ s
  refine wpAny_bind (wpAny_field g1 g3 (x := .int i 0) rfl ?_)
  simp only [Int.toNat_natCast, hz]
  refine wpAny_bind (wpAny_rule (wpAny_bind (wpAny_setField g1 g3 (by simp) ?_)))
  refine wpAny_bind (wpAny_letGo ?_)
  have keep : ∀ (b : Addr) (o : Obj) (f : Obj → Obj), b ≠ p → s.heap.get? b = some o → (s.heap.update p f).get? b = some o := fun b o f hb e => by
    rw [Heap.get?_update_other _ _ (fun q => hb q.symm)]
    exact e
  show wpAny _ _ (newExc (.type "StopIteration") [] >>= _) _ _ _
  refine wpAny_bind ?_
  simp only [newExc, newTuple]
  refine wpAny_bind (wpAny_newObj_type ?_ (by size_fits))
  refine wpAny_bind (m := firstArgMember _ _) (wpAny_of_eq (a := Value.none) (by simp only [firstArgMember]; rfl) ?_)
  refine wpAny_newObj_type ?_ (by size_fits)
  refine HotX.raiseNew_hot ⟨hh, oe, ve, Heap.get?_push_of_some _ (Heap.get?_push_of_some _ (keep e1 oe _ hp k1)), k2, k3⟩ (Nat.ne_of_lt (Heap.lt_size (Heap.get?_push_of_some _ (keep e1 oe _ hp k1)))) (Heap.get?_push_size _ rfl) rfl (by simp; omega) ?_
  refine wpAny_bind (wpAny_isInstance (T := "StopIteration") (b := true) ⟨_, Heap.get?_update_self _ (Heap.get?_push_size _ rfl) rfl, rfl⟩ isSubtype_stop ?_)
  refine wpAny_pure (hQ _ fun b o hb e => ?_)
  have k := keep b o (Obj.mapFields (·.setIfInBounds 0 .none)) hb e
  refine Eq.trans (Heap.get?_update_other _ _ (Nat.ne_of_gt (Heap.lt_size (Heap.get?_push_of_some _ k)))) ?_
  exact Heap.get?_push_of_some _ (Heap.get?_push_of_some _ k)
end
def iAsc (te : TE) : TI := fun σ H R => te σ H fun v H1 => ∃ z : Str, v = .str z ∧ z.cps.all (· < 128) = true ∧ R (Its z) H1
/-- [elt for tg in e], e a text of plain signs, while an exception is being handled -/
theorem pe_lcS {X : Cx} {tg e elt : Expr} {scope : Scope} {own : List (Str × Nat)} {pos : Pos} {te0 te : TE} {g : TG} (hot : L2H.HotC X) (nd : X.N.Nodup) (he0 : PE X e te0) (bo : BlkOk X.N X.env.scope scope own)
    (hg : ∀ s H C cl fp, PG (X.blk s H scope (compEnvC scope cl C X.env) fp) tg g) (he : ∀ s H C cl fp, PE (X.blk s H scope (compEnvC scope cl C X.env) fp) elt te)
    (plain : ∀ x, foldedSetIterable e X.env x = pure x := by intro _; rfl) : PE X (.ListComp elt [⟨tg, e, [], 0⟩] scope pos) (tLc (iAsc te0) g tYes te (own.map (·.2))) := by
  constructor
  intro pins s σ H Q I hw
  rw [eval_ListComp]
  obtain ⟨ex, ⟨hA, hv⟩, hex⟩ := hot
  have cells : ∀ y ∈ scope.names, y.2 = .free → ∃ c, X.env.cells.lookup y.1 = some c := by
    intro y hy hfr
    cases bo.free y hy hfr with
    | inl k => exact I.ok.has _ (.inl k)
    | inr k => exact I.ok.has _ (.inr k)
  refine wpAny_comprehension_free rfl plain (closure_ok cells) bo.kind (by intro y hy k; rw [bo.uniq y hy, k]) ?_
  refine thn (he0.run pins s σ H _ I hw) ?_
  intro v s1 hv1
  obtain ⟨x, H1, I1, rx, z, ez, asc, q⟩ := hv1
  subst ez
  obtain ⟨t, rfl⟩ := rx
  have exlt : ex.1 < s1.heap.objs.size := Heap.lt_size (I1.pin ex (List.mem_append_left _ hex)).1
  refine wpAny_pyIter_ascii asc ?_
  have freeIt : H1 s1.heap.objs.size = none := I1.hok.fresh (Nat.le_refl _)
  have I2 := I1.kept (h' := s1.heap.push { cls := .type "str_ascii_iterator", data := .fields #[.str z t, .int 0 0] }) (t' := s1.toks) fun b ob k => Heap.get?_push_of_some _ k
  have okIt : FpOk X pins H1 s1.heap.objs.size := I1.fpOk (Nat.le_refl _) freeIt
  have st2 : (s1.heap.push { cls := .type "str_ascii_iterator", data := .fields #[.str z t, .int 0 0] }).IsStrIter s1.heap.objs.size "str_ascii_iterator" z t 0 := ⟨_, Heap.get?_push_size _ rfl, rfl, rfl⟩
  have itlt : s1.heap.objs.size < (s1.heap.push { cls := .type "str_ascii_iterator", data := .fields #[.str z t, .int 0 0] }).objs.size := by rw [Heap.size_push]; exact Nat.lt_succ_self _
  generalize hit : s1.heap.objs.size = it at exlt freeIt okIt st2 itlt ⊢
  generalize hs2 : ({ s1 with heap := s1.heap.push { cls := .type "str_ascii_iterator", data := .fields #[.str z t, .int 0 0] } } : Shared) = s2 at I2 ⊢
  have e2 : s2.heap = s1.heap.push { cls := .type "str_ascii_iterator", data := .fields #[.str z t, .int 0 0] } := by rw [← hs2]
  rw [← e2] at st2 itlt
  refine wpAny_newObj_type (newEnv_comp ?_) (by show 0 ≤ sizeLine; decide)
  generalize hD : s2.heap.objs.size = D at itlt ⊢
  have newD : H1 D = none := I2.hok.fresh (Nat.le_of_eq hD)
  obtain ⟨W, ⟨m0, w0⟩, turn⟩ := q D newD
  have I3 : Inv X pins σ (upd H1 D (.lst [])) { s2 with heap := s2.heap.push { cls := .type "list", data := .seq ([] : List Value).toArray } } := by
    refine I2.laid (t' := s2.toks) ?_ (Nat.le_of_eq hD) ?_
    · intro b u k
      exact Heap.get?_push_of_some _ k
    · refine ⟨Nat.zero_le _, [], 0, .nil, ?_⟩
      subst hD
      exact Heap.get?_push_size _ rfl
  have st3 : (s2.heap.push { cls := .type "list", data := .seq ([] : List Value).toArray }).IsStrIter it "str_ascii_iterator" z t 0 := by
    obtain ⟨o, k1, k2⟩ := st2
    exact ⟨o, Heap.get?_push_of_some _ k1, k2⟩
  have sz3 : (s2.heap.push { cls := .type "list", data := .seq ([] : List Value).toArray }).objs.size = D + 1 := by rw [Heap.size_push, hD]
  generalize hs3 : ({ s2 with heap := s2.heap.push { cls := .type "list", data := .seq ([] : List Value).toArray } } : Shared) = s3 at I3 ⊢
  have e3 : s3.heap = s2.heap.push { cls := .type "list", data := .seq ([] : List Value).toArray } := by rw [← hs3]
  rw [← e3] at st3 sz3
  have okIt3 : FpOk X pins (upd H1 D (.lst [])) it := ⟨by rw [upd_ne (Nat.ne_of_lt itlt)]; exact okIt.1, okIt.2⟩
  have I4 := block_start (fp := [it]) I3 bo nd (by
    intro b hb
    rw [List.mem_singleton] at hb
    subst hb
    exact ⟨okIt3, by rw [sz3]; exact Nat.lt_succ_of_lt itlt⟩)
  have pex := I3.pin ex (List.mem_append_left _ hex)
  have exs : ex.1 ∉ frs X.stack := by
    intro hm
    rcases List.mem_cons.mp (I3.stkSub ex.1 hm) with k | k
    · exact pex.2.2.1 k
    · exact pex.2.2.2.1 k
  show codeAny _ _ (.compStart _ 0 (.ref it) (.ref D) (compEnvC scope (cellsFrom (s3.heap.objs.size + 1) scope.names (cloFrom X.env.cells scope.names [])) s3.heap.objs.size X.env)) (compPost (model X.prog X.w) X.A X.xe none (EP X pins σ Q) (.ref D) s3.heap.objs.size) { s3 with heap := pushCells (s3.heap.push { cls := .type "dict", data := .dict #[] }) scope.names }
  have old : ∀ b o, s3.heap.get? b = some o → (pushCells (s3.heap.push { cls := .type "dict", data := .dict #[] }) scope.names).get? b = some o := fun b o k => pushCells_keeps _ _ _ _ (Heap.get?_push_of_some _ k)
  have pg := hg s3 (upd H1 D (.lst [])) s3.heap.objs.size (cellsFrom (s3.heap.objs.size + 1) scope.names (cloFrom X.env.cells scope.names [])) [it]
  have pe := he s3 (upd H1 D (.lst [])) s3.heap.objs.size (cellsFrom (s3.heap.objs.size + 1) scope.names (cloFrom X.env.cells scope.names [])) [it]
  generalize hce : compEnvC scope (cellsFrom (s3.heap.objs.size + 1) scope.names (cloFrom X.env.cells scope.names [])) s3.heap.objs.size X.env = ce at I4 pg pe ⊢
  have ceL : ce.locals = s3.heap.objs.size := by rw [← hce]; rfl
  generalize hH3 : upd H1 D (.lst []) = H3 at I3 I4 pg pe w0 okIt3 pex
  have I5 : Inv (X.blk s3 H3 scope ce [it]) [ex] (wipe σ (own.map (·.2))) H3 { s3 with heap := pushCells (s3.heap.push { cls := .type "dict", data := .dict #[] }) scope.names } := I4.pins_of (by
    intro p hp
    rw [List.mem_singleton] at hp
    subst hp
    refine ⟨old _ _ pex.1, pex.2.1, ?_, exs, pex.2.2.2.2⟩
    show p.1 ≠ ce.locals
    rw [ceL]
    exact Nat.ne_of_lt (Nat.lt_trans exlt (by rw [sz3]; exact Nat.lt_succ_of_lt itlt)))
  have st4 : (pushCells (s3.heap.push { cls := .type "dict", data := .dict #[] }) scope.names).IsStrIter it "str_ascii_iterator" z t 0 := by
    obtain ⟨o, k1, k2⟩ := st3
    exact ⟨o, old _ _ k1, k2⟩
  have itFine : ∀ {ps : List (Addr × Obj)} {τ : L2.St} {H' : Hp} {s' : Shared}, (∀ p ∈ ps, p = ex) → Inv (X.blk s3 H3 scope ce [it]) ps τ H' s' → H' it = none → FpOk (X.blk s3 H3 scope ce [it]) ps H' it := by
    intro ps τ H' s' hps J hn
    have m : it ∈ (X.blk s3 H3 scope ce [it]).ex := List.mem_singleton.mpr rfl
    refine ⟨hn, (J.ok.exf it m).1, J.ok.exfs it m, .inl m, (J.ok.exf it m).2, ?_⟩
    intro p hp
    have hp : p ∈ ([] : List (Addr × Obj)) ++ ps := hp
    rw [List.nil_append] at hp
    rw [hps p hp]
    exact Nat.ne_of_lt exlt
  have just : ∀ p ∈ [ex], p = ex := fun p hp => List.mem_singleton.mp hp
  generalize hs4 : ({ s3 with heap := pushCells (s3.heap.push { cls := .type "dict", data := .dict #[] }) scope.names } : Shared) = s4 at I5 ⊢
  have e4 : s4.heap = pushCells (s3.heap.push { cls := .type "dict", data := .dict #[] }) scope.names := by rw [← hs4]
  rw [← e4] at st4
  have loop : codeAny (model X.prog X.w) X.A (.compLoop (.ListComp elt [⟨tg, e, [], 0⟩] scope pos) 0 (.ref it) (.ref D) ce) (compPost (model X.prog X.w) X.A X.xe none (EP X pins σ Q) (.ref D) s3.heap.objs.size) s4 := by
    refine compLoop_any (fun n s' => ∃ (i : Nat) (H' : Hp), Inv (X.blk s3 H3 scope ce [it]) [ex] (wipe σ (own.map (·.2))) H' s' ∧ s'.heap.IsStrIter it "str_ascii_iterator" z t i ∧ H' it = none ∧ W i n H') ?_ m0 ⟨0, H3, I5, st4, okIt3.1, w0⟩
    intro n s5 hn5
    obtain ⟨i, H5, J5, st5, free5, w5⟩ := hn5
    have F5 := itFine just J5 free5
    obtain ⟨f0, f1, f2, f3, f4, f5⟩ := F5
    rcases turn i n H5 w5 with ⟨stop, done⟩ | ⟨go, Nx, hNx, step⟩
    · -- no more signs
      have pin5 := (J5.pin ex (List.mem_append_right _ (List.mem_singleton.mpr rfl))).1
      obtain ⟨vs, ev, cv⟩ := hv
      refine signs_end (e1 := ex.1) ⟨hA, ex.2, vs, pin5, ev, cv⟩ (Nat.ne_of_lt exlt) st5 (Array.getElem?_eq_none stop) ?_
      intro h6 k6
      have J6 := J5.turned (h' := h6) (t' := s5.toks) k6 f0 f1 f3 f4 f5
      have back : Inv X pins σ H5 { s5 with heap := h6 } := I3.call' (ch := [it]) J6.os J6.base J6.hok J6.bare (by
        intro b hb
        rw [List.mem_singleton] at hb
        subst hb
        exact ⟨okIt3.2.2.2.1, okIt3.2.1, okIt3.2.2.2.2.1, okIt3.2.2.2.2.2⟩)
      have cfree : H5 s3.heap.objs.size = none := by
        rw [← ceL]
        exact J6.free
      obtain ⟨m, ns, _⟩ := J6.loc
      have ns : h6.Ns ce.locals m := ns
      rw [ceL] at ns
      obtain ⟨c0, c1, c2, c3, c4, c5⟩ := I3.fpOk (Nat.le_refl _) cfree
      refine ⟨m, ns, ?_⟩
      intro h7 sb
      exact ⟨.ref D, H5, back.turned (t' := s5.toks) (fun b o hb k => (sb.2 b hb).trans k) c0 c1 c3 c4 c5, rfl, done⟩
    · -- one sign more
      have go : i < z.cps.size := go
      refine wpAny_pyNext_ascii_item st5 (c := z.cps[i]) (by simp [go]) ?_
      intro h6 st6 sb
      have J6 := J5.turned (h' := h6) (t' := s5.toks + 1) (fun b o hb k => (sb.2 b hb).trans k) f0 f1 f3 f4 f5
      obtain ⟨oi, g1, g2, g3⟩ := id st6
      refine go_of (s := { s5 with heap := h6, toks := s5.toks + 1 }) g1 g2 g3 (by decide) ?_
      have J6' := J6.pinned (fp := [it]) (by
        intro b hb
        rw [List.mem_singleton] at hb
        subst hb
        exact itFine just J6 free5) (by
        intro b hb
        rw [List.mem_singleton] at hb
        subst hb
        exact ⟨oi, g1, fun v k => by rw [g3] at k; cases k⟩)
      refine thnF (pg.run _ { s5 with heap := h6, toks := s5.toks + 1 } _ H5 (.str ⟨#[z.cps[i]]⟩) _ _ J6' ⟨s5.toks, rfl⟩ (step _ H5 ⟨rfl, z.cps[i], by simp [go], rfl⟩)) ?_
      intro _ s8 h8
      obtain ⟨σ8, H8, J8, same8, q8⟩ := h8
      refine wpAny_tests_nil ?_
      show (if true = true then _ else _)
      rw [if_pos rfl]
      have q8 : te σ8 H8 fun y H4 => ∃ acc, H4 D = some (.lst acc) ∧ acc.length < sizeLine ∧ Nx (upd H4 D (.lst (acc ++ [y]))) := q8
      refine thnF (pe.run _ s8 σ8 H8 _ J8 q8) ?_
      intro u s9 h9
      obtain ⟨y, H9, J9, r9, acc, hD9, hz9, nx⟩ := h9
      refine app_ok (X := X.blk s3 H3 scope ce [it]) J9 hD9 hz9 r9 ?_
      intro s10 J10
      obtain ⟨m', lt, w'⟩ := hNx _ nx
      have mem : (it, oi) ∈ pinsAt [it] h6 := mem_pinsAt (List.mem_singleton.mpr rfl) g1
      have p10 := J10.pin (it, oi) (List.mem_append_right _ (List.mem_append_right _ mem))
      refine ⟨m', lt, i + 1, _, (J10.unpinned (pins := [ex])).weak ?_ ?_, ⟨oi, p10.1, g2, g3⟩, p10.2.1, w'⟩
      · rw [← same8, wipe_length]
      · intro j v k
        rw [← same8] at k
        exact (wipe_some k).1
  exact codeAny_compStart_list loop (wpAny_pyIter_striter_ascii st4 loop)
end Rl
end
section
set_option Elab.async false
set_option linter.all false
set_option maxRecDepth 100000
set_option maxHeartbeats 4000000
/-! RlH2: codes_of and low_first called while an exception is being handled. -/
namespace Rl
open PySem PySem.Spec PyProof.Rows L2

def OkH (P : Program) (w : World) (K : PySem.W.Frag) (mg : Str → Option Value) (base : Heap) (k : Nat) (f : Addr) (ps : List Str) (sp : Sp) : Prop := ∃ fd, L2H.FnH P w K mg base CX0 k f fd ps sp ∧ Binds K fd ps [] ∧ PySem.W.keepIn K (.ref f) = true
section
variable {P : Program} {w : World} {K : PySem.W.Frag} {mg : Str → Option Value} {base : Heap} {x q : Str} {st : Stmt} {f : Addr} {N ps : List Str} {k : Nat} {sp : Sp}
theorem okH_of (F : FnAt K x q st ps f) (S : FnScope N ps (defScope st)) (len : ∀ vs H Q E, sp vs H Q E → vs.length = ps.length)
    (hb : ∀ (cdv : Value) (A : Around) (outer : List Env) (s : Shared) (H : Hp) (vs : List V) (Q : VK) (E : XK) (p : Addr × Obj), L2H.Hot1 A p → L2H.RoomH k (A.deeper (envOfC q (defScope st) s.heap.objs.size f cdv)) → sp vs H Q E →
      ∃ t, PSs (L2H.cxH CX0 P w K mg base N q (defScope st) f cdv A outer s H E p) (defBody st) t ∧ t { nx := fun _ H' => Q .non H', rt := Q } (start N vs) H) : OkH P w K mg base (k + 1) f ps sp := by
  obtain ⟨fd, F1, b⟩ := F.ex
  obtain ⟨⟨oc, od, kV, doc, pm, an, cdv, ct, osl, rfl, l, c⟩, kp⟩ := F1
  exact ⟨_, L2H.fn_ofH l c S len (hb cdv), b, kp⟩
end
section
variable {X : Cx} {j k : Nat} {f : Addr} {ps : List Str} {sp : Sp} {x : Str} {q pos : Pos} {e : Expr} {es : List Expr} {t : TA}
theorem fn_callH (G : OkH X.prog X.w X.K X.mg X.base j f ps sp) (hm : X.mg x = some (.ref f)) (hr : L2H.RoomH k X.A) (hc : L2H.HotC X) (ha : PA X (e :: es) t) (hj : j ≤ k := by decide) (hg : Gl X x := by rfl)
    (hdb : (x == ("__debug__" : Str)) = false := by decide) (he : starEach (e :: es) X.env = (false, eval e X.env) :: starEach es X.env := by rfl) (hpl : (backTo pos (starEach es X.env)).any (·.1) = false := by rfl) :
    PE X (.Call (.Name x q) (e :: es) [] pos) (L2.tCallS sp (fun _ => E0) t) := by
  obtain ⟨fd, F, b, kp⟩ := G
  exact L2H.pe_callH ⟨F.len, fun A outer s H args us vs Q E p hr' => F.run A outer s H args us vs Q E p (hr'.mono hj)⟩ hr hc hg hm kp b (fun _ _ _ _ _ _ _ h => h.elim) ha hdb he hpl
end
theorem hot_body {CX : CXT} {P : Program} {w : World} {K : PySem.W.Frag} {mg : Str → Option Value} {base : Heap} {N : List Str} {qual : Str} {scope : Scope} {f : Addr} {cd : Value} {A : Around} {outer : List Env} {s : Shared} {H : Hp} {E : XK} {p : Addr × Obj} (h : L2H.Hot1 A p) : L2H.HotC (L2H.cxH CX P w K mg base N qual scope f cd A outer s H E p) :=
  ⟨p, h, List.mem_singleton.mpr rfl⟩
def spCodesH : Sp := fun vs H Q _ => ∃ z : Str, vs = [.str z] ∧ z.cps.all (· < 128) = true ∧ z.length ≤ 1000 ∧ ∀ H' p, Same H H' → H' p = some (.tup (cV z)) → Q (.ref p) H'
section
variable {P : Program} {w : World} {K : PySem.W.Frag} {mg : Str → Option Value} {base : Heap} {A : Adr}
theorem okH_codes_of (T : Txt K mg A) : OkH P w K mg base 1 A.f_codes_of p_codes_of spCodesH := by
  refine okH_of T.F_codes_of sc_codes_of (fun vs H Q E h => ?_) (fun cdv A' outer s H vs Q E p hot hr h => ?_)
  · obtain ⟨z, rfl, _⟩ := h
    rfl
  · obtain ⟨z, rfl, asc, hz, k⟩ := h
    refine ⟨_, pss_one (ps_ret (pe_callTy call_tuple_of (by rfl) T.b_tuple (by decide +kernel) (pa_cons
      (pe_lcS (own := [("sign", 1)]) (g := gName 1) (hot_body hot) sc_codes_of.nd (pv 0) (blkOk_by (own := [("sign", 1)]) (N := n_codes_of) (sc := defScope s_codes_of) (by decide +kernel)) (fun _ _ _ _ _ => pg_name (i := 1) sc_codes_of.nd rfl (Or.inl rfl))
        (fun _ _ _ _ _ => pe_callB call_ord (by rfl) T.b_ord (by decide +kernel) (pa_cons (pv 1) pa_nil))) pa_nil))), ?_⟩
    refine ⟨_, rfl, z, rfl, asc, fun D hD => ?_⟩
    refine lc_tst (K := K) walk_str (fun i v _ => ∃ c, z.cps[i]? = some c ∧ v = .int (c : Nat)) (fun _ _ _ _ _ h => h) hD (by have := hz; rw [sizeLine_eq]; show z.length ≤ _; omega) (fun _ _ => trivial) ?_ ?_
    · rintro i x H2 H3 Q2 hi s2 ⟨rfl, c, hc, rfl⟩ q
      refine ⟨rfl, _, rfl, _, rfl, rfl, ?_⟩
      exact q _ _ (Same.refl _) ⟨c, hc, rfl⟩
    · intro H2 ys s2 hy hl hR
      have e : ys = cV z := by
        apply List.ext_getElem?
        intro i
        by_cases hi : i < ys.length
        · obtain ⟨c, h1, h2⟩ := hR i _ (List.getElem?_eq_getElem hi)
          rw [List.getElem?_eq_getElem hi, h2]
          unfold cV
          rw [List.getElem?_map, Array.getElem?_toList, h1]; rfl
        · rw [List.getElem?_eq_none (by omega), List.getElem?_eq_none (by rw [cV_length]; show z.cps.size ≤ i; omega)]
      refine ⟨D, ys, rfl, .inl ⟨SqL.of hy, fun l hl => ?_⟩⟩
      refine k _ l (s2.trans (Same.new hl)) ?_
      rw [e]; exact upd_same
theorem okH_low_first (T : Txt K mg A) : OkH P w K mg base 1 A.f_low_first p_low_first spLow := by
  refine okH_of T.F_low_first sc_low_first (fun vs H Q E h => ?_) (fun cdv A' outer s H vs Q E p0 hot hr h => ?_)
  · obtain ⟨n, m, rfl, _⟩ := h
    rfl
  · obtain ⟨n, m, rfl, hm, k⟩ := h
    refine ⟨_, pss_cons (ps_set (i := 2) sc_low_first.nd rfl (Or.inl rfl) (pe_lst pa_nil))
      (pss_cons (L2H.ps_forH (passes_of rfl) (hot_body hot) (L2H.pi_range1H rfl T.b_range (pa_cons (pv 1) pa_nil)) (pg_name (i := 3) sc_low_first.nd rfl (Or.inl rfl))
        (pss_cons (ps_expr (pe_append (pv 2) (pe_op op_mod (pv 0) pe_int))) (pss_one (ps_set (i := 0) sc_low_first.nd rfl (Or.inl rfl) (pe_op op_fdiv (pv 0) pe_int)))))
      (pss_one (ps_ret (pv 2)))), ?_⟩
    refine ⟨Nat.zero_le _, fun p hp => ?_⟩
    refine ⟨_, rfl, m, rfl, by omega, by omega, for_range (n := m) (lo := 0) (fun i σ H' => ∃ v, σ = [some (.int ((n / 256 ^ i : Nat) : Int)), some (.int m), some (.ref p), v] ∧ Same H H' ∧ H' p = some (.lst (oV (RWire.low i n)))) ⟨none, by rw [Nat.pow_zero, Nat.div_one]; rfl, Same.new hp, upd_same⟩ ?_ ?_⟩
    · rintro i σ H' hi ⟨v, rfl, s1, h1⟩
      refine ⟨_, rfl, .inl ⟨rfl, _, SqL.of h1⟩, _, rfl, _, _, rfl, rfl, (by show (0 : Int) < 256; decide), p, _, _, rfl, rfl, h1, (by rw [oV_length, low_length]; exact sz_lt' (by omega)), ?_⟩
      refine ⟨_, rfl, _, _, rfl, rfl, ⟨by decide, by decide⟩, ?_⟩
      refine ⟨some (.int (0 + (i : Int))), ?_, s1.mut hp, ?_⟩
      · have e : ((n / 256 ^ i : Nat) : Int) / 256 = ((n / 256 ^ (i + 1) : Nat) : Int) := by
          rw [Nat.pow_succ, ← Nat.div_div_eq_div_mul]
          omega
        rw [← e]; rfl
      · rw [upd_same, low_snoc, oV_app]
        have e : ((n / 256 ^ i : Nat) : Int) % 256 = ((UInt8.ofNat (n / 256 ^ i)).toNat : Nat) := by
          rw [UInt8.toNat_ofNat']
          omega
        show some (HO.lst (oV (RWire.low i n) ++ [V.int (((n / 256 ^ i : Nat) : Int) % 256)])) = _
        rw [e]; rfl
    · rintro σ H' ⟨v, rfl, s1, h1⟩
      exact ⟨_, rfl, k _ p s1 hp h1⟩
end
end Rl
end
section
set_option Elab.async false
set_option linter.all false
set_option maxRecDepth 100000
set_option maxHeartbeats 4000000
/-! RlF1: answered. -/
namespace Rl
open PySem PySem.Spec PyProof.Rows L2

/-- o.m(e, ..) within a try -/
def tMethS (C : Addr) (m : Str) (sp : Sp) (E : L2.St → XK) (ta : TE) (t : TA) : TE := fun σ H Q => ta σ H fun x H1 => ∃ a dx fs, x = .ref a ∧ H1 a = some (.ins C dx fs) ∧ fs.lookup m = none ∧ t σ H1 fun vs H2 => sp (x :: vs) H2 Q (E σ)
theorem fn_methS {X : Cx} {j k : Nat} {f C : Addr} {ps : List Str} {sp : Sp} {W : WX} {m : Str} {pos apos : Pos} {e o : Expr} {es : List Expr} {ta : TE} {t : TA} {pl : Sem Bool} (G : Ok X.prog X.w X.K X.mg X.base (L2N.CX X.prog X.w) j f ps sp) (c : Cls X.K C) (hm : Meth X.K C m f) (hr : Room k X.A)
    (tk : L2N.Takes X W) (he : PE X o ta) (ha : PA X (e :: es) t) (hj : j ≤ k := by decide)
    (hst : starEach (e :: es) X.env = (false, eval e X.env) :: starEach es X.env := by rfl) (hpl : (backTo pos (starEach es X.env)).any (·.1) = false := by rfl)
    (ht : eval (.Call (.Attribute o m apos) (e :: es) [] pos) X.env = (do
      let ov ← eval o X.env
      standAt apos.atName
      let (f, first) ← holding [ov] (getMethod ov m pl)
      callWith pos f first (backTo pos (starEach (e :: es) X.env)) (backToKw pos (keywordEach [] X.env))) := by rfl) :
    PE X (.Call (.Attribute o m apos) (e :: es) [] pos) (tMethS C m sp (WE W) ta t) := by
  obtain ⟨fd, F, b, kp⟩ := G
  refine ⟨fun pins s σ H Q I h => ?_⟩
  refine PySem.W.methodCall_KW (pl := pl) (thn (he.run pins s σ H _ I h) ?_) ht
  intro u s1 h1
  obtain ⟨x, H1, I1, rx, a, dx, fs, ex, ea, l, q⟩ := h1
  subst ex
  obtain rfl : u = Value.ref a := rx
  refine getmeth_ok I1 ea c hm l ?_
  refine PySem.W.callWith_K (first := [.ref a]) (h₀ := X.base) I.ok.mod.kin hm.kp (thn (ha.run pos pins s1 σ H1 _ I1 q) ?_) hst hpl
  intro us s2 h2
  obtain ⟨vs, H2, I2, r, q2⟩ := h2
  exact ⟨I2.kIn, run_fnS (us := .ref a :: us) (vs := .ref a :: vs) F (hr.mono hj) b (L2N.passAt tk σ) I2 (.cons rfl r) q2⟩

theorem room_mark {k : Nat} {A : Around} (r : Room k A) (h : Option Value) : L2H.RoomH k (A.mark h) := ⟨r.dp, r.un⟩
def argV (l : List RWire.Value) : Nat → RWire.Value := fun i => l.getD i .nothing
def ansOk (K : PySem.W.Frag) (A : Adr) (ρ : Gh) (H : Hp) (a : Addr) (n : Nat) (W : MW) (Q : VK) : WRes → Prop
  | .ok (v, W') => RWire.depth v ≤ 32 ∧ RWire.fine v = true ∧ (RWire.write v).length ≤ 1000000 ∧
    ∀ ρ' H' r, Wfr K ρ ρ' H H' → WAt K A ρ' H' a W' (n + 1001) → (∀ b xs, ρ b = none → H b = some (.lst xs) → b ≠ r) → ρ' r = none → H' r = some (.lst (oV (0 :: RWire.write v))) → Q (.ref r) H'
  | .error (o, z) => okN z = true ∧ z.cps.all (· < 128) = true ∧ (o = 1 ∨ o = 2) ∧
    ∀ ρ' H' r, Wfr K ρ ρ' H H' → WAt K A ρ' H' a W (n + 1001) → (∀ b xs, ρ b = none → H b = some (.lst xs) → b ≠ r) → ρ' r = none → H' r = some (.lst (oV (1 :: UInt8.ofNat o.toNat :: (RWire.low 4 z.length ++ oN z)))) → Q (.ref r) H'
def spAnswered (K : PySem.W.Frag) (A : Adr) : Sp := fun vs H Q _ => ∃ (ρ : Gh) (a o : Addr) (W : MW) (n d : Nat) (bs : List UInt8) (l : List RWire.Value), vs = [.ref a, .ref o] ∧ WAt K A ρ H a W n ∧ n < 12000000 ∧ H o = some (.lst (oV bs)) ∧ bs.length ≤ 100000 ∧
  RWire.readRequest bs = some (d, l) ∧ PlMany l ∧ l.length ≤ 5 ∧ CallP W d (argV l) (ansOk K A ρ H a n W Q)
theorem CallP.imp {W : MW} {d : Nat} {av : Nat → RWire.Value} {F G : WRes → Prop} (h : CallP W d av F) (i : ∀ r, F r → G r) : CallP W d av G := by
  rcases h with ⟨h0, s, h1, h2, q⟩ | ⟨h0, s, t, j, N, h1, h2, h3, h4, h5, h6, q⟩ | ⟨h0, s, m, N, L, h1, h2, h3, h4, h5, q⟩ | ⟨h0, s, m, h1, h2, h3, q⟩ | ⟨s, j, N, h1, h2, h3, h4, q⟩
  · exact .inl ⟨h0, s, h1, h2, i _ q⟩
  · exact .inr (.inl ⟨h0, s, t, j, N, h1, h2, h3, h4, h5, h6, i _ q⟩)
  · exact .inr (.inr (.inl ⟨h0, s, m, N, L, h1, h2, h3, h4, h5, i _ q⟩))
  · exact .inr (.inr (.inr (.inl ⟨h0, s, m, h1, h2, h3, i _ q⟩)))
  · refine .inr (.inr (.inr (.inr ⟨s, j, N, h1, h2, h3, h4, ?_⟩)))
    rcases q with ⟨e, q⟩ | ⟨e, q⟩ | ⟨e1, e2, e3, q⟩
    · exact .inl ⟨e, i _ q⟩
    · exact .inr (.inl ⟨e, i _ q⟩)
    · exact .inr (.inr ⟨e1, e2, e3, i _ q⟩)
section
variable {P : Program} {w : World} {K : PySem.W.Frag} {mg : Str → Option Value} {base : Heap} {A : Adr}
theorem xfc (T : Txt K mg A) : XfC K A.c_X := ⟨T.gaX, T.ggX, T.oex.exC, T.hdX⟩
theorem ok_answered (T : Txt K mg A) : Ok P w K mg base CX0 40 A.f_answered p_answered (spAnswered K A) := by
  have Gri := ok_R_init (P := P) (w := w) (base := base) T
  have Grw := ok_R_whole (P := P) (w := w) (base := base) T
  have Gc := ok_B_call (P := P) (w := w) (base := base) T
  have Go := ok_octets_of (P := P) (w := w) (base := base) T 32
  have Hc := okH_codes_of (P := P) (w := w) (base := base) T
  have Hl := okH_low_first (P := P) (w := w) (base := base) T
  refine ok_of T.F_answered sc_answered (fun vs H Q E h => ?_) (fun cdv A' outer s H vs Q E hr h => ?_)
  · obtain ⟨ρ, a, o, W, n, d, bs, l, rfl, _⟩ := h
    rfl
  · obtain ⟨ρ, a, o, W, n, d, bs, l, rfl, wt, hn, ho, hbs, hreq, hpl, hl5, q⟩ := h
    obtain ⟨uM, hM, rM⟩ := T.v_MOST_ARGUMENTS
    refine ⟨_, pss_cons (ps_asg (fn_meth0 Grw T.cl_R T.m_R_whole hr (fn_make T.mk_R Gri T.gc_R hr (pa_cons (pv 1) pa_nil))) (pg_tup rfl (pgs_cons (pg_name (i := 2) sc_answered.nd rfl (Or.inl rfl)) (pgs_cons (pg_name (i := 3) sc_answered.nd rfl (Or.inl rfl)) pgs_nil))))
      (pss_cons (ps_expr (pe_extend (pv 3) (pe_op op_rep (pe_lst (pa_cons (pe_glob (v := .ref A.t_NOTHING) rfl T.v_NOTHING rfl) pa_nil)) (pe_op op_sub (pe_glob rfl hM rM) (pe_lenOf T.b_len (pv 3))))))
      (pss_one (L2N.ps_try_as (i := 4) (tb := fun W => tRet (tOp rCat (tLst (tCons (tC (.int 0)) tNil)) (tCall (spOct K 32) [] E0 (tCons (tMethS A.c_B "call" (spBcall K A) (WE W) (tVar 0) (tCons (tVar 2) (tCons (tVar 3) tNil))) tNil))))
        (ts := fun a cls d => tSeq (tAsg (tOp rCat (tCB (rLstOf K) (tCons (tCallS spCodesH (fun _ => E0) (tCons (tXf a cls d A.c_X "message" (tVar 4)) tNil)) tNil)) (tCB (rLstOf K) (tCons (tXf a cls d A.c_X "further" (tVar 4)) tNil))) (gName 5))
          (tRet (tOp rCat (tOp rCat (tLst (tCons (tC (.int 1)) (tCons (tXf a cls d A.c_X "order" (tVar 4)) tNil))) (tCallS spLow (fun _ => E0) (tCons (tCB (rLenOf K) (tCons (tVar 5) tNil)) (tCons (tC (.int 4)) tNil)))) (tVar 5))))
        (Wout := fun _ _ _ _ => False) rfl rfl sc_answered.nd rfl rfl ⟨rfl, by decide, Or.inl T.gc_X⟩ (fun u s' x => by obtain ⟨_, _, _, _, _, _, _, _, _, _, _, _, _, _, _, _, w⟩ := x; exact w.elim)
        (fun W pn xe tk _ => pss_one (ps_ret (pe_op op_cat (pe_lst (pa_cons pe_int pa_nil)) (fn_call Go T.g_octets_of hr (pa_cons (fn_methS Gc T.cl_B T.m_B_call hr tk (pv 0) (pa_cons (pv 2) (pa_cons (pv 3) pa_nil))) pa_nil)))))
        (fun a oe cls d pn hz hd => by
          have hot : L2H.HotC ((cxOf CX0 P w K mg base n_answered "answered" (defScope s_answered) A.f_answered cdv A' outer s H E).nox.suite a ((a, oe) :: pn)) := by
            obtain ⟨vs, hv⟩ := hd
            exact ⟨(a, oe), ⟨rfl, vs, hv, hz.2.2 vs hv⟩, List.mem_cons_self⟩
          have rh := room_mark hr (some (.ref a))
          exact pss_cons (ps_set (i := 5) sc_answered.nd rfl (Or.inl rfl) (pe_op op_cat (pe_lstOf T.b_list (fn_callH Hc T.g_codes_of rh hot (pa_cons (pe_xf (xfc T) T.x_message hz.zc hd (pv 4)) pa_nil))) (pe_lstOf T.b_list (pe_xf (xfc T) T.x_further hz.zc hd (pv 4)))))
            (pss_one (ps_ret (pe_op op_cat (pe_op op_cat (pe_lst (pa_cons pe_int (pa_cons (pe_xf (xfc T) T.x_order hz.zc hd (pv 4)) pa_nil))) (fn_callH Hl T.g_low_first rh hot (pa_cons (pe_lenOf T.b_len (pv 5)) (pa_cons pe_int pa_nil)))) (pv 5)))))))), ?_⟩
    have hlen1 : (1 : Nat) ≤ sizeLine := by decide
    -- Request(octets)
    refine ⟨_, rfl, ?_⟩
    intro x dx hx hdx hne
    have s1 : Same H (upd (upd H dx (.own x)) x (.ins A.c_R dx [])) := (Same.new hdx).trans (Same.new (by rw [upd_ne (fun z => hne z.symm)]; exact hx))
    refine ⟨x, o, dx, rfl, upd_same, fun H2 h2 fr2 => ⟨rfl, ?_⟩⟩
    have s2 : Same H H2 := fun b u hb => fr2 b u (s1 _ _ hb) (ne_of_none hb hx)
    -- .whole()
    refine ⟨x, dx, _, rfl, h2, reqF_no (by decide +kernel) _ _, x, o, bs, bs, d, l, rfl, ⟨dx, [], h2, rfl, .of (s2 _ _ ho), hbs⟩, hreq, hpl, fun H3 t g xs h3t h3g hg2 hv fr3 => ?_⟩
    have s3 : Same H H3 := fun b u hb => fr3 b u (s2 _ _ hb) (ne_of_none hb hx)
    have hg0 : H g = none := by
      cases e : H g with
      | none => rfl
      | some u => rw [s2 _ _ e] at hg2; cases hg2
    refine ⟨t, _, rfl, .of h3t, rfl, _, _, rfl, _, _, rfl, rfl, ?_⟩
    -- given.extend(..)
    have hxl := hv.length
    refine ⟨_, rfl, .inl ⟨rfl, _, SqL.of h3g⟩, hlen1, fun p1 hp1 => ?_⟩
    have s4 : Same H3 (upd H3 p1 (.lst [.ref A.t_NOTHING])) := Same.new hp1
    refine ⟨_, rfl, g, _, rfl, .inl (SqL.of (s4 _ _ h3g)), _, _, rfl, rfl, p1, _, _, rfl, rfl, upd_same, by omega, by omega, ?_, fun p2 hp2 => ?_⟩
    · rw [List.length_singleton]
      exact sz_le (by omega)
    have ek : ((5 : Int) - (xs.length : Nat)).toNat = 5 - l.length := by omega
    rw [ek]
    have er : (List.replicate (5 - l.length) [V.ref A.t_NOTHING]).flatten = List.replicate (5 - l.length) (V.ref A.t_NOTHING) := by
      induction 5 - l.length with
      | zero => rfl
      | succ j ih =>
        show [V.ref A.t_NOTHING] ++ (List.replicate j [V.ref A.t_NOTHING]).flatten = _
        rw [ih]; rfl
    rw [er]
    have s5 := s4.trans (Same.new (o := .lst (List.replicate (5 - l.length) (V.ref A.t_NOTHING))) hp2)
    have h5g := s5 _ _ h3g
    refine ⟨g, p2, xs, _, rfl, rfl, h5g, upd_same, ?_, ?_⟩
    · rw [List.length_replicate]
      exact sz_le (by omega)
    generalize hH6 : upd (upd (upd H3 p1 (.lst [.ref A.t_NOTHING])) p2 (.lst (List.replicate (5 - l.length) (V.ref A.t_NOTHING)))) g (.lst (xs ++ List.replicate (5 - l.length) (V.ref A.t_NOTHING))) = H6
    have s6 : Same H H6 := by
      rw [← hH6]
      exact (s3.trans s5).mut hg0
    have h6g : H6 g = some (.lst (xs ++ List.replicate (5 - l.length) (V.ref A.t_NOTHING))) := by rw [← hH6]; exact upd_same
    have t36 : TSt K H3 H6 := by
      rw [← hH6]
      exact s5.tst.trans (TSt.upd h5g trivial)
    have giv : Given K H6 g (xs ++ List.replicate (5 - l.length) (V.ref A.t_NOTHING)) (argV l) := by
      refine ⟨.of h6g, fun i hi => ?_⟩
      by_cases hil : i < l.length
      · obtain ⟨y, hy, ry⟩ := VRs.get (VRs.tst t36 _ _ hv) (List.getElem?_eq_getElem hil)
        refine ⟨y, by rw [List.getElem?_append_left (by omega)]; exact hy, ?_⟩
        unfold argV
        rw [List.getD_eq_getElem?_getD, List.getElem?_eq_getElem hil]
        exact ry
      · refine ⟨.ref A.t_NOTHING, ?_, ?_⟩
        · rw [List.getElem?_append_right (by omega), List.getElem?_replicate, if_pos (by omega)]
        · unfold argV
          rw [List.getD_eq_getElem?_getD, List.getElem?_eq_none (by omega)]
          show VR K H6 .nothing _
          unfold VR
          exact ⟨_, rfl, T.w_NOTHING.at _⟩
    obtain ⟨ht, ok, wx, wi⟩ := wt
    have ht6 := ht.same s6
    have w6 := wi.same ht s6
    -- the try
    dsimp only
    refine ret_in ?_
    refine ⟨hlen1, fun p3 hp3 => ?_⟩
    have s7 : Same H6 (upd H6 p3 (.lst [.int 0])) := Same.new hp3
    have s07 := s6.trans s7
    have n3 : H p3 = none := by
      cases e : H p3 with
      | none => rfl
      | some u => rw [s6 _ _ e] at hp3; cases hp3
    refine ⟨_, rfl, a, wx.dx, _, rfl, (wi.same ht s07).o, libF_no (by decide +kernel), _, rfl, _, rfl, ?_⟩
    refine ⟨ρ, a, W, n, d, g, _, argV l, rfl, ⟨ht.same s07, ok, wx, wi.same ht s07⟩, hn, giv.same s7, q.imp fun r hq => ?_⟩
    cases r with
    | ok y =>
      obtain ⟨v, W'⟩ := y
      obtain ⟨hd, hf, hw, hq⟩ := hq
      intro ρ' H8 z f8 wt8 hz
      have f08 := (Wfr.same (K := K) ht s07).trans f8
      refine ⟨z, v, rfl, hz, hd, hf, hw, fun H9 p9 s9 hp9 h9 => ?_⟩
      obtain ⟨n38, h38⟩ := f8.l p3 _ ((ht.same s6).free hp3) upd_same
      refine ⟨p3, p9, _, _, rfl, rfl, s9 _ _ h38, h9, ?_, fun r hr => ?_⟩
      · rw [oV_length]
        exact sz_le (by show 1 + _ ≤ _; omega)
      · obtain ⟨ht8, ok8, x8, w8⟩ := wt8
        have s10 : Same H8 (upd H9 r (.lst ([.int 0] ++ oV (RWire.write v)))) := s9.trans (Same.new hr)
        have hr8 : H8 r = none := by
          cases e : H8 r with
          | none => rfl
          | some u => rw [s9 _ _ e] at hr; cases hr
        refine hq ρ' _ r (f08.trans (Wfr.same ht8 s10)) ⟨ht8.same s10, ok8, x8, w8.same ht8 s10⟩ (fun b ys nb hb => ?_) (ht8.free hr8) upd_same
        exact ne_of_none (s9 _ _ (f08.l b ys nb hb).2) hr
    | error y =>
      obtain ⟨oo, z⟩ := y
      obtain ⟨hz, asc, h12, hq⟩ := hq
      intro H8 dd s8 hx8
      have s08 := s07.trans s8
      refine ⟨true, T.eX, fun _ ea hea => ?_, fun z => by cases z⟩
      obtain ⟨te, hxd, hte⟩ := hx8
      have hzl := okN_l hz
      -- message = list(codes_of(e.message)) + list(e.further)
      refine ⟨_, rfl, rfl, rfl, dd, _, .str z, rfl, hxd, rfl, z, rfl, asc, hzl, fun H9 p9 s9 h9 => ?_⟩
      refine ⟨p9, _, rfl, .inr (.of h9), fun l1 hl1 => ?_⟩
      have s10 := s9.trans (Same.new (o := .lst (cV z)) hl1)
      refine ⟨_, rfl, rfl, rfl, dd, _, .ref te, rfl, s10 _ _ hxd, rfl, te, [], rfl, .inr (s10.tup hte), fun l2 hl2 => ?_⟩
      have s11 := s10.trans (Same.new (o := .lst []) hl2)
      refine ⟨l1, l2, cV z, [], rfl, rfl, by rw [upd_ne (ne_of_none upd_same hl2)]; exact upd_same, upd_same, sz_le (by rw [cV_length]; show z.length + 0 ≤ _; omega), fun m hm => ?_⟩
      rw [List.append_nil]
      have s12 := s11.trans (Same.new (o := .lst (cV z)) hm)
      -- return [1, e.order] + low_first(len(message), 4) + message
      refine ⟨_, rfl, rfl, rfl, dd, _, .int oo, rfl, s12 _ _ hxd, rfl, two_le, fun l3 hl3 => ?_⟩
      have hm12 : (upd (upd (upd H9 l1 (.lst (cV z))) l2 (.lst [])) m (.lst (cV z))) m = some (.lst (cV z)) := upd_same
      have hm13 := (Same.new (o := .lst [.int 1, .int oo]) hl3) _ _ hm12
      have s13 := s12.trans (Same.new (o := .lst [.int 1, .int oo]) hl3)
      refine ⟨_, rfl, m, cV z, rfl, .inl (.of hm13), z.length, 4, by rw [cV_length]; rfl, by decide, fun H14 l4 s14 hl4 h14 => ?_⟩
      have lowl : (RWire.low 4 z.length).length = 4 := low_length 4 _
      refine ⟨l3, l4, _, _, rfl, rfl, s14 _ _ upd_same, h14, sz_le (by rw [oV_length, lowl]; exact Nat.le_of_ble_eq_true rfl), fun l5 hl5 => ?_⟩
      have s15 : Same H14 (upd H14 l5 (.lst ([.int 1, .int oo] ++ oV (RWire.low 4 z.length)))) := Same.new hl5
      refine ⟨_, rfl, l5, m, _, _, rfl, rfl, upd_same, s15 _ _ (s14 _ _ hm13), sz_le (by rw [List.length_append, oV_length, lowl, cV_length]; show 2 + 4 + z.length ≤ _; omega), fun r hr => ?_⟩
      have s16 := ((s13.trans s14).trans s15).trans (Same.new (o := .lst ([.int 1, .int oo] ++ oV (RWire.low 4 z.length) ++ cV z)) hr)
      have s0r := s08.trans s16
      have er : [V.int 1, V.int oo] ++ oV (RWire.low 4 z.length) ++ cV z = oV (1 :: UInt8.ofNat oo.toNat :: (RWire.low 4 z.length ++ oN z)) := by
        have e1 : oV (1 :: UInt8.ofNat oo.toNat :: (RWire.low 4 z.length ++ oN z)) = V.int 1 :: V.int ((UInt8.ofNat oo.toNat).toNat : Nat) :: oV (RWire.low 4 z.length ++ oN z) := rfl
        rw [e1, oV_app, ← okN_c hz]
        rcases h12 with rfl | rfl <;> rfl
      rw [er]
      have hr0 : H r = none := by
        cases e : H r with
        | none => rfl
        | some u => rw [((s08.trans ((s13.trans s14).trans s15)) _ _ e)] at hr; cases hr
      rw [er] at s0r
      exact hq ρ _ r (Wfr.same ht s0r) ⟨ht.same s0r, ok.mono (by omega), wx, (wi.same ht s0r).mono (by omega)⟩ (fun b ys nb hb => ne_of_none hb hr0) (ht.free hr0) upd_same
end
end Rl
end
section
set_option Elab.async false
set_option linter.all false
set_option maxRecDepth 100000
set_option maxHeartbeats 4000000
/-! RlF2: answers. -/
namespace Rl
open PySem PySem.Spec PyProof.Rows L2

def MW.start : MW := ⟨[], fun _ => none, fun _ => none⟩
/-- the requests as one list -/
def flatV (bss : List (List UInt8)) : List V := bss.flatMap fun bs => V.int 0 :: V.int (bs.length : Nat) :: oV bs
def outV (as : List (List UInt8)) : List V := as.flatMap fun a => V.int (a.length : Nat) :: oV a
/-- the requests bss in the world W are answered by as -/
def PlayP : MW → List (List UInt8) → List (List UInt8) → Prop
  | _, [], as => as = []
  | W, bs :: r, as => ∃ d l, bs.length ≤ 100000 ∧ RWire.readRequest bs = some (d, l) ∧ PlMany l ∧ l.length ≤ 5 ∧ CallP W d (argV l) fun res => match res with
    | .ok (v, W') => RWire.depth v ≤ 32 ∧ RWire.fine v = true ∧ (RWire.write v).length ≤ 1000000 ∧ ∃ as', as = (0 :: RWire.write v) :: as' ∧ PlayP W' r as'
    | .error (o, z) => okN z = true ∧ z.cps.all (· < 128) = true ∧ (o = 1 ∨ o = 2) ∧ ∃ as', as = (1 :: UInt8.ofNat o.toNat :: (RWire.low 4 z.length ++ oN z)) :: as' ∧ PlayP W r as'
theorem flatV_app (a b : List (List UInt8)) : flatV (a ++ b) = flatV a ++ flatV b := List.flatMap_append
theorem outV_app (a b : List (List UInt8)) : outV (a ++ b) = outV a ++ outV b := List.flatMap_append
theorem cut_at {pre mid suf : List V} : cutV (pre ++ (mid ++ suf)) (some ((pre.length : Nat) : Int)) (some ((pre.length + mid.length : Nat) : Int)) = mid := by
  unfold cutV
  rw [HT.sIx_nat, HT.sIx_nat, List.length_append, List.length_append]
  have e1 : min pre.length (pre.length + (mid.length + suf.length)) = pre.length := by omega
  have e2 : min (pre.length + mid.length) (pre.length + (mid.length + suf.length)) = pre.length + mid.length := by omega
  rw [e1, e2, List.drop_left' rfl]
  have e3 : pre.length + mid.length - pre.length = mid.length := by omega
  rw [e3, List.take_left' rfl]
/-- what is handed in; it is not the list at f -/
def InL (K : PySem.W.Frag) (ρ : Gh) (H : Hp) (c f : Addr) (xs : List V) : Prop := (H c = some (.lst xs) ∧ ρ c = none ∧ c ≠ f) ∨ (∃ o, H c = some (.frz o (.lst xs))) ∨
  ∃ (o : Obj) (its : Array Value) (n : Nat), K.lookup c = some o ∧ o.cls = .type "list" ∧ o.dict = none ∧ o.data = .seq its n ∧ its.size ≤ sizeLine ∧ Vals xs its.toList
section
variable {K : PySem.W.Frag} {A : Adr} {ρ ρ' : Gh} {H H' : Hp} {c f a : Addr} {xs ys : List V} {W : MW} {n : Nat}
theorem InL.of (h : SqL K H c xs) (n : ρ c = none) (k : ∀ u, H c = some u → c ≠ f) : InL K ρ H c f xs := by
  rcases h with (h | h) | h
  · exact .inl ⟨h, n, k _ h⟩
  · exact .inr (.inl h)
  · exact .inr (.inr h)
theorem InL.seq (h : InL K ρ H c f xs) : SqL K H c xs := by
  rcases h with ⟨h, _⟩ | h | h
  · exact .inl (.inl h)
  · exact .inl (.inr h)
  · exact .inr h
theorem InL.wfr (h : InL K ρ H c f xs) (w : Wfr K ρ ρ' H H') : InL K ρ' H' c f xs := by
  rcases h with ⟨h, n, k⟩ | ⟨o, h⟩ | h
  · obtain ⟨n', h'⟩ := w.l c xs n h
    exact .inl ⟨h', n', k⟩
  · exact .inr (.inl ⟨o, w.f c o _ h⟩)
  · exact .inr (.inr h)
theorem InL.upd (h : InL K ρ H c f xs) (hf : H f = some (.lst ys)) {o : HO} : InL K ρ (L2.upd H f o) c f xs := by
  rcases h with ⟨h, n, k⟩ | ⟨o', h⟩ | h
  · exact .inl ⟨by rw [upd_ne k]; exact h, n, k⟩
  · exact .inr (.inl ⟨o', by rw [upd_ne (fun z => by rw [z, hf] at h; cases h)]; exact h⟩)
  · exact .inr (.inr h)
/-- a list of ints that bears no role is written: the world stands -/
theorem lst_mv {R : Pth × Rol → Prop} {o : HO} (hq : ρ f = none) (hf : H f = some (.lst ys)) : Mv K R ρ ρ H (L2.upd H f o) := Mv.out hq hf trivial
theorem CircIs.updF {γ : Cid} {p : Addr} {w : Nat} {L : List ML} {x : CA} {o : HO} (c : CircIs K A ρ H γ p w L x) (hL : 1 ≤ L.length) (hq : ρ f = none) (hf : H f = some (.lst ys)) (hy : ∀ r t, ys ≠ V.ref r :: t) : CircIs K A ρ (L2.upd H f o) γ p w L x := by
  refine ⟨by rw [upd_ne (fun z => by have e := c.o; rw [z, hf] at e; cases e)]; exact c.o, c.no, ?_, c.nl, c.n, fun j b m h1 h2 => (c.k j b m h1 h2).mv (lst_mv hq hf)⟩
  rw [upd_ne ?_]
  · exact c.l
  · intro z
    have e := c.l
    rw [z, hf] at e
    have hn := c.n
    cases hls : x.ls with
    | nil => rw [hls] at hn; simp at hn; omega
    | cons r t =>
      rw [hls] at e
      cases e
      exact hy r _ rfl
theorem NetIs.updF {i : Nat} {b : Addr} {cs : List Addr} {N : MNet} {o : HO} (c : NetIs K A ρ H i b cs N) (hN : NOk n N) (hq : ρ f = none) (hf : H f = some (.lst ys)) (hy : ∀ r t, ys ≠ V.ref r :: t) : NetIs K A ρ (L2.upd H f o) i b cs N := by
  refine ⟨?_, c.nl, c.n, fun j p L h1 h2 => ?_⟩
  · rw [upd_ne ?_]
    · exact c.l
    · intro z
      have e := c.l
      rw [z, hf] at e
      have hn := c.n
      have := hN.1
      cases hcs : cs with
      | nil => rw [hcs] at hn; simp at hn; omega
      | cons r t =>
        rw [hcs] at e
        cases e
        exact hy r _ rfl
  · obtain ⟨x, k⟩ := c.c j p L h1 h2
    have hj : j < N.cs.length := (List.getElem?_eq_some_iff.mp h2).1
    have hg := hN.get hj
    have eL : N.cs[j] = L := by rw [List.getElem?_eq_getElem hj] at h2; exact Option.some.inj h2
    rw [eL] at hg
    exact ⟨x, k.updF hg.1 hq hf hy⟩
theorem WAt.updF {o : HO} (w : WAt K A ρ H a W n) (hq : ρ f = none) (hf : H f = some (.lst ys)) (hy : ∀ r t, ys ≠ V.ref r :: t) : WAt K A ρ (L2.upd H f o) a W n := by
  obtain ⟨t, k, x, i⟩ := w
  refine ⟨t.upd hq, k, x, ?_⟩
  exact {
    o := by rw [upd_ne (fun z => by have e := i.o; rw [z, hf] at e; cases e)]; exact i.o
    no := i.no
    hn := by rw [upd_ne (fun z => by have e := i.hn; rw [z, hf] at e; cases e)]; exact i.hn
    hw := by rw [upd_ne (fun z => by have e := i.hw; rw [z, hf] at e; cases e)]; exact i.hw
    dd := i.dd
    ln := i.ln
    lw := i.lw
    vn := i.vn
    vw := i.vw
    nt := fun j N h => (i.nt j N h).updF (k.c N (List.mem_of_getElem? h)) hq hf hy
    wk := fun t ht m hm => by
      obtain ⟨cp, h1, h2, h3⟩ := i.wk t ht m hm
      exact ⟨cp, h1, by rw [upd_ne (fun z => by rw [z, hf] at h2; cases h2)]; exact h2, h3⟩
    df := i.df }
theorem WAt.same (w : WAt K A ρ H a W n) (s : Same H H') : WAt K A ρ H' a W n := by
  obtain ⟨t, k, x, i⟩ := w
  exact ⟨t.same s, k, x, i.same t s⟩
theorem outV_int : ∀ (as : List (List UInt8)) (r : Addr) (t : List V), outV as ≠ V.ref r :: t
  | [], _, _, h => by cases h
  | b :: bs, r, t, h => by
    have h : V.int (b.length : Nat) :: (oV b ++ outV bs) = V.ref r :: t := h
    cases h
theorem outV_snoc : ∀ (as : List (List UInt8)) (i : Int) (r : Addr) (t : List V), outV as ++ [V.int i] ≠ V.ref r :: t
  | [], _, _, _, h => by cases h
  | b :: bs, i, r, t, h => by
    have h : V.int (b.length : Nat) :: (oV b ++ outV bs ++ [V.int i]) = V.ref r :: t := h
    cases h
end
def spAnswers (K : PySem.W.Frag) : Sp := fun vs H Q _ => ∃ (c : Addr) (bss as : List (List UInt8)), vs = [.ref c] ∧ SqL K H c (flatV bss) ∧ (flatV bss).length ≤ 10000000 ∧ bss.length ≤ 200 ∧ (outV as).length ≤ 10000000 ∧ PlayP MW.start bss as ∧
  ∀ H' p, H' p = some (.lst (outV as)) → Q (.ref p) H'
section
variable {P : Program} {w : World} {K : PySem.W.Frag} {mg : Str → Option Value} {base : Heap} {A : Adr}
theorem okF_answers (T : Txt K mg A) {fd : FuncData} (F1 : Fun K "answers" "answers" s_answers A.f_answers fd) : FnOk P w K mg base CX0 41 A.f_answers fd p_answers (spAnswers K) := by
  have Gb := ok_B_init (P := P) (w := w) (base := base) T
  have Ga := ok_answered (P := P) (w := w) (base := base) T
  refine F1.ok sc_answers (fun vs H Q E h => ?_) (fun cdv A' outer s H vs Q E hr h => ?_)
  · obtain ⟨c, bss, as, rfl, _⟩ := h
    rfl
  · obtain ⟨c, bss, as, rfl, hc, hin, hmany, hout, hplay, q⟩ := h
    refine ⟨_, pss_cons (ps_set (i := 1) sc_answers.nd rfl (Or.inl rfl) (fn_make0 T.mk_B Gb T.gc_B hr))
      (pss_cons (ps_set (i := 2) sc_answers.nd rfl (Or.inl rfl) (pe_lst pa_nil))
      (pss_cons (ps_set (i := 3) sc_answers.nd rfl (Or.inl rfl) pe_int)
      (pss_cons (ps_while PassesOwn.never (pt_cmpR op_lt (pv 3) (pe_lenOf T.b_len (pv 0)) (nomark _))
        (pss_cons (ps_set (i := 4) sc_answers.nd rfl (Or.inl rfl) (pe_ix ix_list (pv 0) (pe_op op_add (pv 3) pe_int) (fun _ _ => rfl)))
        (pss_cons (ps_set (i := 5) sc_answers.nd rfl (Or.inl rfl) (fn_call Ga T.g_answered hr (pa_cons (pv 1) (pa_cons (pe_lstOf T.b_list (pe_slice sl_list (pv 0) (po_some (pe_op op_add (pv 3) pe_int)) (po_some (pe_op op_add (pe_op op_add (pv 3) pe_int) (pv 4))))) pa_nil))))
        (pss_cons (ps_aug (i := 3) sc_answers.nd rfl (Or.inl rfl) (pe_op op_add pe_int (pv 4)) ip_add)
        (pss_cons (ps_expr (pe_append (pv 2) (pe_lenOf T.b_len (pv 5))))
        (pss_one (ps_expr (pe_extend (pv 2) (pv 5)))))))))
      (pss_one (ps_ret (pv 2)))))), ?_⟩
    -- Library()
    intro a dx ha hdx hne
    have s1 : Same H (upd (upd H dx (.own a)) a (.ins A.c_B dx [])) := (Same.new hdx).trans (Same.new (by rw [upd_ne (fun z => hne z.symm)]; exact ha))
    refine ⟨a, dx, rfl, upd_same, fun H1 dn dw hdn hdw hdd h1a h1n h1w fr1 => ⟨rfl, ?_⟩⟩
    have s2 : Same H H1 := fun b u hb => by
      have hb1 := s1 _ _ hb
      rw [fr1 b (ne_of_none hb ha) (ne_of_none hb1 hdn) (ne_of_none hb1 hdw)]
      exact hb1
    have t0 : Trk (fun _ => none) H1 := fun b x e => by cases e
    have wt1 : WAt K A (fun _ => none) H1 a MW.start 1 := ⟨t0, ⟨Nat.le_refl 1, fun _ _ e => (by cases e), fun _ _ e => (by cases e), fun _ h => (by cases h)⟩,
      ⟨dx, dn, dw, [], [], fun _ => 0, fun _ => [], fun _ => 0, fun _ => 0⟩, ⟨h1a, rfl, h1n, h1w, hdd, Nat.zero_le _, Nat.zero_le _, fun _ _ => rfl, fun _ _ => rfl, fun _ _ h => (by cases h), fun _ _ _ h => (by cases h), fun _ _ _ _ _ _ _ h => (by cases h)⟩⟩
    -- found = [], at = 0
    refine ⟨Nat.zero_le _, fun f hf => ?_⟩
    have s3 : Same H1 (upd H1 f (.lst [])) := Same.new hf
    have wt2 := wt1.same s3
    have hI1 : InL K (fun _ => none) H1 c f (flatV bss) := InL.of (s2.seq hc) rfl fun u hu => ne_of_none hu hf
    refine ⟨fun m σ H' => ∃ (done rest ad ar : List (List UInt8)) (W : MW) (ρ : Gh) (v4 v5 : Option V), m = rest.length ∧ bss = done ++ rest ∧ as = ad ++ ar ∧ σ = [some (.ref c), some (.ref a), some (.ref f), some (.int ((flatV done).length : Nat)), v4, v5] ∧
        WAt K A ρ H' a W (1 + done.length * 1001) ∧ InL K ρ H' c f (flatV bss) ∧ H' f = some (.lst (outV ad)) ∧ ρ f = none ∧ PlayP W rest ar,
      ⟨bss.length, [], bss, [], as, MW.start, fun _ => none, none, none, rfl, rfl, rfl, rfl, wt2, hI1.wfr (Wfr.same t0 s3), upd_same, rfl, hplay⟩, ?_⟩
    · rintro m σ H' ⟨done, rest, ad, ar, W, ρ, v4, v5, rfl, hb, hA, rfl, wt, hI, hF, nf, hp⟩
      refine ⟨_, rfl, _, rfl, c, _, rfl, .inl hI.seq, _, _, rfl, rfl, _, rfl, ?_⟩
      have hlen : (flatV bss).length = (flatV done).length + (flatV rest).length := by rw [hb, flatV_app, List.length_append]
      cases rest with
      | nil =>
        have hlen : (flatV bss).length = (flatV done).length := by rw [hlen]; rfl
        refine if_no (decide_eq_false (by omega)) ?_
        have hp : ar = [] := hp
        subst hp
        rw [List.append_nil] at hA
        subst hA
        exact ⟨_, rfl, q H' f hF⟩
      | cons bs rest =>
        have er : flatV (bs :: rest) = V.int 0 :: V.int (bs.length : Nat) :: (oV bs ++ flatV rest) := rfl
        have hlen2 : (flatV (bs :: rest)).length = 2 + bs.length + (flatV rest).length := by
          rw [er, List.length_cons, List.length_cons, List.length_append, oV_length]; omega
        refine if_yes (decide_eq_true (by omega)) ?_
        have ef : flatV bss = flatV done ++ (V.int 0 :: V.int (bs.length : Nat) :: (oV bs ++ flatV rest)) := by rw [hb, flatV_app, er]
        obtain ⟨d, l, hbs, hreq, hpl, hl5, hcall⟩ := hp
        refine ⟨fun σ' H'' => ∃ (done' ad' ar' : List (List UInt8)) (W : MW) (ρ : Gh) (v4 v5 : Option V), done' = done ++ [bs] ∧ as = ad' ++ ar' ∧ σ' = [some (.ref c), some (.ref a), some (.ref f), some (.int ((flatV done').length : Nat)), v4, v5] ∧
          WAt K A ρ H'' a W (1 + done'.length * 1001) ∧ InL K ρ H'' c f (flatV bss) ∧ H'' f = some (.lst (outV ad')) ∧ ρ f = none ∧ PlayP W rest ar', fun σ' H'' => ?_, ?_⟩
        · rintro ⟨done', ad', ar', W', ρ', u4, u5, rfl, r1, r2, r3, r4, r5, r6, r7⟩
          exact ⟨rest.length, Nat.lt_succ_self _, done ++ [bs], rest, ad', ar', W', ρ', u4, u5, rfl, by rw [hb, List.append_assoc]; rfl, r1, r2, r3, r4, r5, r6, r7⟩
        · refine ⟨_, rfl, _, rfl, _, _, rfl, rfl, c, _, _, .int (bs.length : Nat), rfl, rfl, hI.seq, atI_nat (j := (flatV done).length + 1) (by rw [ef, List.getElem?_append_right (by omega), Nat.add_sub_cancel_left]; rfl), ?_⟩
          refine ⟨_, rfl, _, rfl, _, rfl, _, _, rfl, rfl, _, rfl, _, rfl, _, _, rfl, rfl, _, rfl, _, _, rfl, rfl, _, rfl, c, _, rfl, hI.seq, fun p1 hp1 => ?_⟩
          have ecut : cutV (flatV bss) (some (((flatV done).length : Nat) + 2 : Int)) (some ((((flatV done).length : Nat) : Int) + 2 + (bs.length : Nat))) = oV bs := by
            have k := cut_at (pre := flatV done ++ [V.int 0, V.int (bs.length : Nat)]) (mid := oV bs) (suf := flatV rest)
            have e1 : flatV done ++ [V.int 0, V.int (bs.length : Nat)] ++ (oV bs ++ flatV rest) = flatV bss := by rw [ef, List.append_assoc]; rfl
            have e2 : ((flatV done ++ [V.int 0, V.int (bs.length : Nat)]).length : Int) = ((flatV done).length : Nat) + 2 := by rw [List.length_append]; rfl
            have e3 : (((flatV done ++ [V.int 0, V.int (bs.length : Nat)]).length + (oV bs).length : Nat) : Int) = (((flatV done).length : Nat) : Int) + 2 + (bs.length : Nat) := by
              rw [oV_length, List.length_append]
              show (((flatV done).length + 2 + bs.length : Nat) : Int) = _
              omega
            rw [e1, e3, e2] at k
            exact k
          rw [ecut]
          have s5 : Same H' (upd H' p1 (.lst (oV bs))) := Same.new hp1
          refine ⟨p1, _, rfl, .inl (.of upd_same), fun o ho => ?_⟩
          have s6 : Same H' (upd (upd H' p1 (.lst (oV bs))) o (.lst (oV bs))) := s5.trans (Same.new ho)
          have hF6 := s6 _ _ hF
          have nD : done.length ≤ 200 := by
            have := hmany
            rw [hb, List.length_append] at this
            omega
          refine ⟨ρ, a, o, W, 1 + done.length * 1001, d, bs, l, rfl, wt.same s6, by omega, upd_same, hbs, hreq, hpl, hl5, hcall.imp fun res hres => ?_⟩
          have hI6 := hI.wfr (Wfr.same wt.t s6)
          cases res with
          | ok y =>
            obtain ⟨v, W'⟩ := y
            obtain ⟨g1, g2, g3, ar', ea, hp'⟩ := hres
            refine ⟨g1, g2, g3, ?_⟩
            generalize (0 :: RWire.write v) = ans at ea
            intro ρ' H7 r fw wt' hne nr hr
            obtain ⟨nf', hF7⟩ := fw.l f _ nf hF6
            have hrf : f ≠ r := hne f _ nf hF6
            have hI7 := hI6.wfr fw
            subst ea
            have hol : (outV as).length = (outV ad).length + (1 + ans.length + (outV ar').length) := by
              rw [hA, outV_app, List.length_append]
              show _ + (V.int _ :: (oV ans ++ outV ar')).length = _
              rw [List.length_cons, List.length_append, oV_length]
              omega
            refine ⟨_, rfl, _, rfl, _, _, rfl, rfl, _, _, rfl, rfl, ?_⟩
            refine ⟨_, rfl, .inl ⟨rfl, _, SqL.of hF7⟩, _, rfl, r, oV ans, rfl, .inl (.of hr), f, _, _, rfl, rfl, hF7, sz_lt' (by omega), ?_⟩
            have w8 := wt'.updF (o := .lst (outV ad ++ [V.int ((oV ans).length : Nat)])) nf' hF7 (outV_int ad)
            have hI8 := hI7.upd hF7 (o := .lst (outV ad ++ [V.int ((oV ans).length : Nat)]))
            have hr8 : (upd H7 f (.lst (outV ad ++ [V.int ((oV ans).length : Nat)]))) r = some (.lst (oV ans)) := by rw [upd_ne (fun z => hrf z.symm)]; exact hr
            have hF8 : (upd H7 f (.lst (outV ad ++ [V.int ((oV ans).length : Nat)]))) f = some (.lst (outV ad ++ [V.int ((oV ans).length : Nat)])) := upd_same
            refine ⟨_, rfl, .inl ⟨rfl, _, SqL.of hF8⟩, _, rfl, f, r, _, oV ans, rfl, rfl, hF8, hr8, sz_le (by rw [List.length_append, List.length_singleton, oV_length]; omega), ?_⟩
            have w9 := w8.updF (o := .lst (outV ad ++ [V.int ((oV ans).length : Nat)] ++ oV ans)) nf' hF8 (outV_snoc ad _)
            have hI9 := hI8.upd hF8 (o := .lst (outV ad ++ [V.int ((oV ans).length : Nat)] ++ oV ans))
            have eo : outV ad ++ [V.int ((oV ans).length : Nat)] ++ oV ans = outV (ad ++ [ans]) := by
              rw [outV_app, List.append_assoc, oV_length]
              show _ = outV ad ++ (V.int (ans.length : Nat) :: (oV ans ++ []))
              rw [List.append_nil]; rfl
            have eat : ((flatV done).length : Int) + (2 + (bs.length : Nat)) = ((flatV (done ++ [bs])).length : Nat) := by
              rw [flatV_app, List.length_append]
              show _ = (((flatV done).length + (V.int 0 :: V.int (bs.length : Nat) :: (oV bs ++ [])).length : Nat) : Int)
              rw [List.length_cons, List.length_cons, List.append_nil, oV_length]
              omega
            have en : 1 + done.length * 1001 + 1001 = 1 + (done ++ [bs]).length * 1001 := by
              rw [List.length_append, List.length_singleton]; omega
            rw [en] at w9
            exact ⟨done ++ [bs], ad ++ [ans], ar', _, ρ', _, _, rfl, by rw [hA, List.append_assoc]; rfl, by rw [← eat]; rfl, w9, hI9, by rw [← eo]; exact upd_same, nf', hp'⟩
          | error y =>
            obtain ⟨oo, z⟩ := y
            obtain ⟨g1, g2, g3, ar', ea, hp'⟩ := hres
            refine ⟨g1, g2, g3, ?_⟩
            generalize (1 :: UInt8.ofNat oo.toNat :: (RWire.low 4 z.length ++ oN z)) = ans at ea
            intro ρ' H7 r fw wt' hne nr hr
            obtain ⟨nf', hF7⟩ := fw.l f _ nf hF6
            have hrf : f ≠ r := hne f _ nf hF6
            have hI7 := hI6.wfr fw
            subst ea
            have hol : (outV as).length = (outV ad).length + (1 + ans.length + (outV ar').length) := by
              rw [hA, outV_app, List.length_append]
              show _ + (V.int _ :: (oV ans ++ outV ar')).length = _
              rw [List.length_cons, List.length_append, oV_length]
              omega
            refine ⟨_, rfl, _, rfl, _, _, rfl, rfl, _, _, rfl, rfl, ?_⟩
            refine ⟨_, rfl, .inl ⟨rfl, _, SqL.of hF7⟩, _, rfl, r, oV ans, rfl, .inl (.of hr), f, _, _, rfl, rfl, hF7, sz_lt' (by omega), ?_⟩
            have w8 := wt'.updF (o := .lst (outV ad ++ [V.int ((oV ans).length : Nat)])) nf' hF7 (outV_int ad)
            have hI8 := hI7.upd hF7 (o := .lst (outV ad ++ [V.int ((oV ans).length : Nat)]))
            have hr8 : (upd H7 f (.lst (outV ad ++ [V.int ((oV ans).length : Nat)]))) r = some (.lst (oV ans)) := by rw [upd_ne (fun z => hrf z.symm)]; exact hr
            have hF8 : (upd H7 f (.lst (outV ad ++ [V.int ((oV ans).length : Nat)]))) f = some (.lst (outV ad ++ [V.int ((oV ans).length : Nat)])) := upd_same
            refine ⟨_, rfl, .inl ⟨rfl, _, SqL.of hF8⟩, _, rfl, f, r, _, oV ans, rfl, rfl, hF8, hr8, sz_le (by rw [List.length_append, List.length_singleton, oV_length]; omega), ?_⟩
            have w9 := w8.updF (o := .lst (outV ad ++ [V.int ((oV ans).length : Nat)] ++ oV ans)) nf' hF8 (outV_snoc ad _)
            have hI9 := hI8.upd hF8 (o := .lst (outV ad ++ [V.int ((oV ans).length : Nat)] ++ oV ans))
            have eo : outV ad ++ [V.int ((oV ans).length : Nat)] ++ oV ans = outV (ad ++ [ans]) := by
              rw [outV_app, List.append_assoc, oV_length]
              show _ = outV ad ++ (V.int (ans.length : Nat) :: (oV ans ++ []))
              rw [List.append_nil]; rfl
            have eat : ((flatV done).length : Int) + (2 + (bs.length : Nat)) = ((flatV (done ++ [bs])).length : Nat) := by
              rw [flatV_app, List.length_append]
              show _ = (((flatV done).length + (V.int 0 :: V.int (bs.length : Nat) :: (oV bs ++ [])).length : Nat) : Int)
              rw [List.length_cons, List.length_cons, List.append_nil, oV_length]
              omega
            have en : 1 + done.length * 1001 + 1001 = 1 + (done ++ [bs]).length * 1001 := by
              rw [List.length_append, List.length_singleton]; omega
            rw [en] at w9
            exact ⟨done ++ [bs], ad ++ [ans], ar', _, ρ', _, _, rfl, by rw [hA, List.append_assoc]; rfl, by rw [← eat]; rfl, w9, hI9, by rw [← eo]; exact upd_same, nf', hp'⟩
theorem ok_answers (T : Txt K mg A) : Ok P w K mg base CX0 41 A.f_answers p_answers (spAnswers K) := by
  obtain ⟨fd, F1, b⟩ := T.F_answers.ex
  exact ⟨fd, okF_answers T F1, b, F1.kp⟩
end
end Rl
end
section
set_option Elab.async false
set_option linter.all false
set_option maxRecDepth 100000
set_option maxHeartbeats 4000000
/-! RlP1: arguments and messages: the specification's readings are the mirror's. -/
namespace Rl
open PySem (Str)
open R7251g.Spec (units decimal Plain rangeArg sideArg field boolArg Cls Err andThen integerIn integerOf sideOf typeErrOf)
open Rust (octetOf unitOf taken takenAll takenFields)

/-! ### texts -/
theorem oN_app (a b : Str) : oN (a ++ b) = oN a ++ oN b := by
  unfold oN
  have e : (a ++ b).cps.toList = a.cps.toList ++ b.cps.toList := Array.toList_append
  rw [e, List.map_append]
def asc (z : Str) : Prop := z.cps.all (· < 128) = true
theorem asc_app {a b : Str} (h : asc a) (k : asc b) : asc (a ++ b) := by
  show (a.cps ++ b.cps).all (· < 128) = true
  rw [Array.all_append, Bool.and_eq_true]
  exact ⟨h, k⟩
theorem okN_of {z : Str} (h : asc z) (l : z.length ≤ 1000) : okN z = true := by
  unfold okN
  rw [Bool.and_eq_true, decide_eq_true_iff]
  refine ⟨?_, l⟩
  have h : z.cps.all (· < 128) = true := h
  rw [← Array.all_toList] at h
  rw [List.all_eq_true] at h ⊢
  intro c hc
  have := of_decide_eq_true (h c hc)
  exact decide_eq_true (by omega)
theorem dec_all : ∀ n : Nat, n ≤ 1000 → (decimal n).map octetOf = oN ((toString ((n : Nat) : Int) : String) : Str) ∧ asc ((toString ((n : Nat) : Int) : String) : Str) := by
  have h : (List.range 1001).all (fun n => decide ((decimal n).map octetOf = oN ((toString ((n : Nat) : Int) : String) : Str)) && ((toString ((n : Nat) : Int) : String) : Str).cps.all (· < 128)) = true := by decide +kernel
  intro n hn
  have k := List.all_eq_true.mp h n (List.mem_range.mpr (by omega))
  rw [Bool.and_eq_true, decide_eq_true_iff] at k
  exact k
theorem num_msg (s : String) (h : (units s).map octetOf = oN (s : Str)) {a b : Nat} (ha : a ≤ 1000) (hb : b ≤ 1000) : (units s ++ units " must be an integer from " ++ decimal a ++ units " to " ++ decimal b).map octetOf = oN (numMsg s a b) := by
  unfold numMsg
  rw [oN_app, oN_app, oN_app, oN_app, ← (dec_all a ha).1, ← (dec_all b hb).1, ← h, List.map_append, List.map_append, List.map_append, List.map_append]
  congr 1
theorem num_asc (s : String) (h : asc (s : Str)) (hl : (s : Str).length ≤ 100) {a b : Nat} (ha : a ≤ 1000) (hb : b ≤ 1000) : asc (numMsg s a b) ∧ (numMsg s a b).length ≤ 1000 := by
  unfold numMsg
  refine ⟨asc_app (asc_app (asc_app (asc_app h (by unfold asc; decide +kernel)) (dec_all a ha).2) (by unfold asc; decide +kernel)) (dec_all b hb).2, ?_⟩
  rw [app_len, app_len, app_len, app_len]
  have h1 := tos_len a ha
  have h2 := tos_len b hb
  have h3 : (" must be an integer from " : Str).length = 25 := by decide +kernel
  have h4 : (" to " : Str).length = 4 := by decide +kernel
  omega

/-! ### arguments -/
/-- a refusal of the specification, of the mirror -/
def ErrR (e : Err) (x : Int × Str) : Prop := (Rust.classOf e.cls : Int) = x.1 ∧ e.msg.map octetOf = oN x.2 ∧ okN x.2 = true ∧ asc x.2 ∧ (x.1 = 1 ∨ x.1 = 2)
theorem intOf_taken {v : RWire.Value} (hp : Pl v) : integerOf (taken v) = match v with
    | .int i => some i
    | _ => none := by
  cases v with
  | big _ => exact absurd hp.1 (by simp [RWire.noBig])
  | _ => unfold taken; rfl
structure NmOk (s : String) : Prop where
  u : (units s).map octetOf = oN (s : Str)
  a : asc (s : Str)
  l : (s : Str).length ≤ 100
def RelR {α β : Type} (R : α → β → Prop) : R7251g.Spec.Res α → Except (Int × Str) β → Prop
  | .ok x, .ok y => R x y
  | .error e, .error z => ErrR e z
  | _, _ => False
theorem rel_num {α β : Type} {R : α → β → Prop} {v : RWire.Value} {s : String} {a b : Nat} {f : Nat → R7251g.Spec.Res α} {g : Nat → Except (Int × Str) β} (hp : Pl v) (hs : NmOk s) (ha : a ≤ 1000) (hb : b ≤ 1000) (h : ∀ n, a ≤ n → n ≤ b → v = .int n → RelR R (f n) (g n)) :
    RelR R (andThen (rangeArg s a b (taken v)) f) (numM v s a b g) := by
  have ei := intOf_taken hp
  cases hi : isIntV v a b with
  | true =>
    obtain ⟨n, e, h1, h2, _⟩ := intV_get hi
    rw [numM_yes e h1 h2]
    subst e
    have er : rangeArg s a b (taken (.int (n : Nat))) = .ok n := by
      unfold rangeArg integerIn
      rw [ei]
      show R7251g.Spec.orErr _ (if Int.ofNat a ≤ (n : Nat) ∧ ((n : Nat) : Int) ≤ Int.ofNat b then some ((n : Nat) : Int).toNat else none) = _
      rw [if_pos ⟨by show (a : Int) ≤ n; omega, by show (n : Int) ≤ b; omega⟩, Int.toNat_natCast]; rfl
    rw [er]
    exact h n h1 h2 rfl
  | false =>
    rw [numM_no hi]
    have er : rangeArg s a b (taken v) = .error (typeErrOf (units s ++ units " must be an integer from " ++ decimal a ++ units " to " ++ decimal b)) := by
      unfold rangeArg integerIn
      rw [ei]
      cases v with
      | int i =>
        have hi : (decide ((a : Int) ≤ i) && decide (i ≤ (b : Int))) = false := hi
        show R7251g.Spec.orErr _ (if Int.ofNat a ≤ i ∧ i ≤ Int.ofNat b then some i.toNat else none) = _
        rw [if_neg (fun z => by
          have h1 : (a : Int) ≤ i := z.1
          have h2 : i ≤ (b : Int) := z.2
          rw [decide_eq_true h1, decide_eq_true h2] at hi
          cases hi)]; rfl
      | _ => rfl
    rw [er]
    obtain ⟨k1, k2⟩ := num_asc s hs.a hs.l ha hb
    exact ⟨rfl, num_msg s hs.u ha hb, okN_of k1 k2, k1, .inl rfl⟩
theorem unit_inj : ∀ {u v : List UInt8}, u.map unitOf = v.map unitOf → u = v
  | [], [], _ => rfl
  | [], _ :: _, h => by cases h
  | _ :: _, [], h => by cases h
  | a :: r, b :: t, h => by
    rw [List.map_cons, List.map_cons, List.cons.injEq] at h
    have e : a = b := by
      have h1 : UInt16.ofNat a.toNat = UInt16.ofNat b.toNat := h.1
      have k := congrArg UInt16.toNat h1
      rw [UInt16.toNat_ofNat', UInt16.toNat_ofNat'] at k
      have := a.toNat_lt
      have := b.toNat_lt
      exact UInt8.toNat_inj.mp (by omega)
    rw [e, unit_inj h.2]
theorem units_oR : units "right" = oR.map unitOf := by decide +kernel
theorem units_oL : units "left" = oL.map unitOf := by decide +kernel
theorem sideOf_taken (v : RWire.Value) (hp : Pl v) : sideOf (taken v) = sideV v := by
  cases v with
  | text u =>
    unfold taken
    show (if (u.map unitOf == units "right") = true then some true else if (u.map unitOf == units "left") = true then some false else none) = (if u = oL then some false else if u = oR then some true else none)
    rw [units_oR, units_oL]
    have e1 : (u.map unitOf == oR.map unitOf) = decide (u = oR) := by
      rw [Bool.eq_iff_iff, beq_iff_eq, decide_eq_true_iff]
      exact ⟨unit_inj, fun h => by rw [h]⟩
    have e2 : (u.map unitOf == oL.map unitOf) = decide (u = oL) := by
      rw [Bool.eq_iff_iff, beq_iff_eq, decide_eq_true_iff]
      exact ⟨unit_inj, fun h => by rw [h]⟩
    rw [e1, e2]
    by_cases h1 : u = oR
    · rw [if_pos (decide_eq_true h1), if_neg (by rw [h1]; decide), if_pos h1]
    · rw [if_neg (by rw [decide_eq_false h1]; exact Bool.false_ne_true), if_neg h1]
      by_cases h2 : u = oL
      · rw [if_pos (decide_eq_true h2), if_pos h2]
      · rw [if_neg (by rw [decide_eq_false h2]; exact Bool.false_ne_true), if_neg h2]
  | wide _ => exact absurd hp.3 (by simp [RWire.noWide])
  | _ => unfold taken; rfl
structure SdOk (s : String) : Prop where
  u : (units (s ++ " must be 'left' or 'right'")).map octetOf = oN (sideMsg s)
  a : asc (sideMsg s)
  l : (sideMsg s).length ≤ 1000
theorem rel_side {α β : Type} {R : α → β → Prop} {v : RWire.Value} {s : String} {f : Bool → R7251g.Spec.Res α} {g : Bool → Except (Int × Str) β} (hp : Pl v) (hs : SdOk s) (h : ∀ b, RelR R (f b) (g b)) :
    RelR R (andThen (sideArg s (taken v)) f) (sideM v s g) := by
  unfold sideArg sideM
  rw [sideOf_taken v hp]
  cases sideV v with
  | some b => exact h b
  | none => exact ⟨rfl, hs.u, okN_of hs.a hs.l, hs.a, .inl rfl⟩
theorem more_taken (v : RWire.Value) (hp : Pl v) : boolArg "more" (taken v) = match moreV v with
    | some b => .ok b
    | none => .error (R7251g.Spec.typeErr ("more" ++ " must be a boolean")) := by
  cases v with
  | octets _ => exact absurd hp.2 (by simp [RWire.noOctets])
  | big _ => exact absurd hp.1 (by simp [RWire.noBig])
  | wide _ => exact absurd hp.3 (by simp [RWire.noWide])
  | _ => unfold taken; rfl
theorem more_err : ErrR (R7251g.Spec.typeErr ("more" ++ " must be a boolean")) (1, moreMsg) := ⟨rfl, by decide +kernel, by decide +kernel, by unfold asc; decide +kernel, .inl rfl⟩
theorem ref_err (r : R7251g.Spec.Refusal) : ErrR (R7251g.Spec.rangeErr (R7251g.Spec.refusalText r)) (2, refS r) := by
  cases r <;> exact ⟨rfl, by decide +kernel, by decide +kernel, by unfold asc; decide +kernel, .inr rfl⟩
theorem nm_end : SdOk "end" := ⟨by decide +kernel, by unfold asc; decide +kernel, by decide +kernel⟩
theorem nm_dir : SdOk "direction" := ⟨by decide +kernel, by unfold asc; decide +kernel, by decide +kernel⟩
theorem nm_value : NmOk "value" := ⟨by decide +kernel, by unfold asc; decide +kernel, by decide +kernel⟩
theorem nm_node : NmOk "node" := ⟨by decide +kernel, by unfold asc; decide +kernel, by decide +kernel⟩
theorem nm_link : NmOk "link" := ⟨by decide +kernel, by unfold asc; decide +kernel, by decide +kernel⟩
theorem nm_limit : NmOk "limit" := ⟨by decide +kernel, by unfold asc; decide +kernel, by decide +kernel⟩
theorem nm_circuit : NmOk "circuit" := ⟨by decide +kernel, by unfold asc; decide +kernel, by decide +kernel⟩
theorem nm_nodes : NmOk "nodes" := ⟨by decide +kernel, by unfold asc; decide +kernel, by decide +kernel⟩
theorem nm_circuits : NmOk "circuits" := ⟨by decide +kernel, by unfold asc; decide +kernel, by decide +kernel⟩
theorem nm_window : NmOk "window" := ⟨by decide +kernel, by unfold asc; decide +kernel, by decide +kernel⟩
theorem field_taken (s : String) (u : List UInt8) (h : units s = u.map unitOf) : ∀ l : List (RWire.Text × RWire.Value), field (takenFields l) s = taken (memberV l u)
  | [] => by unfold takenFields field memberV taken; rfl
  | (n, v) :: r => by
    have ih := field_taken s u h r
    unfold takenFields field memberV
    rw [List.find?_cons]
    have e : ((n.map unitOf, taken v).1 == units s) = decide (n = u) := by
      rw [h, Bool.eq_iff_iff, beq_iff_eq, decide_eq_true_iff]
      exact ⟨unit_inj, fun k => by rw [k]⟩
    rw [e]
    by_cases k : n = u
    · rw [decide_eq_true k, if_pos k]
    · rw [decide_eq_false k, if_neg k]
      unfold field at ih
      exact ih
end Rl
end
section
set_option Elab.async false
set_option linter.all false
set_option maxRecDepth 100000
set_option maxHeartbeats 4000000
/-! RlP2: values: what the specification tells is what the mirror tells. -/
namespace Rl
open PySem (Str)
open R7251g.Spec hiding text record
open Rust (octetOf unitOf taken given givenAll givenFields givenText)

theorem given_str (s : String) (h : (units s).map octetOf = oN (s : Str)) : given (R7251g.Spec.text s) = .text (oN (s : Str)) := by
  unfold R7251g.Spec.text given givenText
  rw [h]; rfl
theorem given_nat (n : Nat) : given (nat n) = .int (n : Nat) := by
  unfold nat given; rfl
theorem given_bool (b : Bool) : given (.bool b) = .bool b := by unfold given; rfl
theorem given_arr {α : Type} (f : α → Plain) : ∀ l : List α, givenAll (l.map f) = l.map fun x => given (f x)
  | [] => by unfold givenAll; rfl
  | a :: r => by
    rw [List.map_cons, List.map_cons]
    unfold givenAll
    rw [given_arr f r]
theorem given_arrE (l : List Plain) : given (.arr l) = .list (givenAll l) := by unfold given; rfl
theorem given_objE (l : List (Units × Plain)) : given (.obj l) = .record (givenFields l) := by unfold given; rfl
theorem given_list {α : Type} (f : α → Plain) (l : List α) : given (.arr (l.map f)) = .list (l.map fun x => given (f x)) := by
  rw [given_arrE, given_arr]
theorem given_fields : ∀ l : List (String × Plain), givenFields (l.map fun f => (units f.1, f.2)) = l.map fun f => ((units f.1).map octetOf, given f.2)
  | [] => by unfold givenFields; rfl
  | a :: r => by
    rw [List.map_cons, List.map_cons]
    unfold givenFields
    rw [given_fields r]
theorem given_rec (l : List (String × Plain)) : given (R7251g.Spec.record l) = .record (l.map fun f => ((units f.1).map octetOf, given f.2)) := by
  unfold R7251g.Spec.record
  rw [given_objE, given_fields]
theorem given_pk (p : Packet) : given (packetPlain p) = vPk p := by
  unfold packetPlain vPk
  rw [given_rec]
  have e1 : (units "value").map octetOf = oN "value" := by decide +kernel
  have e2 : (units "more").map octetOf = oN "more" := by decide +kernel
  show RWire.Value.record [((units "value").map octetOf, given (nat p.value)), ((units "more").map octetOf, given (.bool p.more))] = _
  rw [given_nat, given_bool, e1, e2]
theorem kind_units (i : Item) : (units (kindText i)).map octetOf = oN (kindS i) := by
  cases i with
  | data u p =>
    show (units (if u then "urgent" else "data")).map octetOf = oN (nKind u)
    cases u <;> decide +kernel
  | credit u =>
    show (units (if u then "urgent credit" else "credit")).map octetOf = oN (cKind u)
    cases u <;> decide +kernel
  | reset => decide +kernel
  | confirm => decide +kernel
theorem given_kind (i : Item) : given (R7251g.Spec.text (kindText i)) = .text (oN (kindS i)) := by
  unfold R7251g.Spec.text given givenText
  rw [kind_units]; rfl
theorem given_item (i : Item) : given (itemPlain i) = vItem i := by
  have e0 : (units "kind").map octetOf = oN "kind" := by decide +kernel
  have e1 : (units "value").map octetOf = oN "value" := by decide +kernel
  have e2 : (units "more").map octetOf = oN "more" := by decide +kernel
  have gn : given .null = .null := by unfold given; rfl
  cases i with
  | data u p =>
    show given (R7251g.Spec.record [("kind", R7251g.Spec.text (kindText (.data u p))), ("value", nat p.value), ("more", .bool p.more)]) = .record [(oN "kind", .text (oN (kindS (.data u p)))), (oN "value", .int p.value), (oN "more", .bool p.more)]
    rw [given_rec]
    show RWire.Value.record [((units "kind").map octetOf, given (R7251g.Spec.text (kindText (.data u p)))), ((units "value").map octetOf, given (nat p.value)), ((units "more").map octetOf, given (.bool p.more))] = _
    rw [given_kind, given_nat, given_bool, e0, e1, e2]
  | credit u =>
    show given (R7251g.Spec.record [("kind", R7251g.Spec.text (kindText (.credit u))), ("value", .null), ("more", .null)]) = .record [(oN "kind", .text (oN (kindS (.credit u)))), (oN "value", .null), (oN "more", .null)]
    rw [given_rec]
    show RWire.Value.record [((units "kind").map octetOf, given (R7251g.Spec.text (kindText (.credit u)))), ((units "value").map octetOf, given .null), ((units "more").map octetOf, given .null)] = _
    rw [given_kind, gn, e0, e1, e2]
  | reset =>
    show given (R7251g.Spec.record [("kind", R7251g.Spec.text (kindText .reset)), ("value", .null), ("more", .null)]) = .record [(oN "kind", .text (oN (kindS .reset))), (oN "value", .null), (oN "more", .null)]
    rw [given_rec]
    show RWire.Value.record [((units "kind").map octetOf, given (R7251g.Spec.text (kindText .reset))), ((units "value").map octetOf, given .null), ((units "more").map octetOf, given .null)] = _
    rw [given_kind, gn, e0, e1, e2]
  | confirm =>
    show given (R7251g.Spec.record [("kind", R7251g.Spec.text (kindText .confirm)), ("value", .null), ("more", .null)]) = .record [(oN "kind", .text (oN (kindS .confirm))), (oN "value", .null), (oN "more", .null)]
    rw [given_rec]
    show RWire.Value.record [((units "kind").map octetOf, given (R7251g.Spec.text (kindText .confirm))), ((units "value").map octetOf, given .null), ((units "more").map octetOf, given .null)] = _
    rw [given_kind, gn, e0, e1, e2]
theorem given_pks (l : List Packet) : given (.arr (l.map packetPlain)) = vPks l := by
  rw [given_list]
  unfold vPks
  congr 1
  exact List.map_congr_left fun p _ => given_pk p
theorem given_end (e : End) (h : ∀ k, ((e.open k : Nat) : Int) = (absE e).cnt k) : given (endPlain e) = vEnd (absE e) := by
  have e0 : (units "resetting").map octetOf = oN "resetting" := by decide +kernel
  have e1 : (units "open").map octetOf = oN "open" := by decide +kernel
  have e2 : (units "openUrgent").map octetOf = oN "openUrgent" := by decide +kernel
  have e3 : (units "inbox").map octetOf = oN "inbox" := by decide +kernel
  have e4 : (units "urgent").map octetOf = oN "urgent" := by decide +kernel
  have e5 : (units "resets").map octetOf = oN "resets" := by decide +kernel
  unfold endPlain vEnd
  rw [given_rec]
  show RWire.Value.record [((units "resetting").map octetOf, given (.bool e.resetting)), ((units "open").map octetOf, given (nat (e.open false))), ((units "openUrgent").map octetOf, given (nat (e.open true))), ((units "inbox").map octetOf, given (.arr (e.inbox.map packetPlain))),
    ((units "urgent").map octetOf, given (.arr (e.urgent.map packetPlain))), ((units "resets").map octetOf, given (nat (e.got.length - 1)))] = _
  rw [given_bool, given_nat, given_nat, given_nat, given_pks, given_pks, e0, e1, e2, e3, e4, e5, h false, h true]
  rfl
theorem open_l {l : Link} (h : LInv l) (k : Bool) : ((l.left.open k : Nat) : Int) = (absE l.left).cnt k := open_eq h k
theorem open_r {l : Link} (h : LInv l) (k : Bool) : ((l.right.open k : Nat) : Int) = (absE l.right).cnt k := open_eq h.flip k
theorem given_items (l : List Item) : given (.arr (l.map itemPlain)) = vItems l := by
  rw [given_list]
  unfold vItems
  congr 1
  exact List.map_congr_left fun p _ => given_item p
theorem given_link {l : Link} (h : LInv l) : given (linkPlain l) = vLink (absL l) := by
  have e0 : (units "left").map octetOf = oN "left" := by decide +kernel
  have e1 : (units "right").map octetOf = oN "right" := by decide +kernel
  have e2 : (units "toRight").map octetOf = oN "toRight" := by decide +kernel
  have e3 : (units "toLeft").map octetOf = oN "toLeft" := by decide +kernel
  unfold linkPlain vLink
  rw [given_rec]
  show RWire.Value.record [((units "left").map octetOf, given (endPlain l.left)), ((units "right").map octetOf, given (endPlain l.right)), ((units "toRight").map octetOf, given (.arr (l.lr.map itemPlain))), ((units "toLeft").map octetOf, given (.arr (l.rl.map itemPlain)))] = _
  rw [given_end _ (open_l h), given_end _ (open_r h), given_items, given_items, e0, e1, e2, e3]
  rfl
theorem given_logs (l : List (List Packet)) : given (logsPlain l) = .list (l.reverse.map vPks) := by
  unfold logsPlain
  rw [given_list]
  congr 1
  exact List.map_congr_left fun p _ => given_pks p
theorem given_log (u : Bool) (e : End) : given (logPlain u e) = vLog (absE e) u := by
  have e0 : (units "sent").map octetOf = oN "sent" := by decide +kernel
  have e1 : (units "got").map octetOf = oN "got" := by decide +kernel
  unfold logPlain vLog
  rw [given_rec]
  show RWire.Value.record [((units "sent").map octetOf, given (logsPlain (sentLog u e))), ((units "got").map octetOf, given (logsPlain (gotLog u e)))] = _
  rw [given_logs, given_logs, e0, e1]; rfl
theorem given_msgs (e : End) : given (messagesPlain e) = vMsgs (absE e) := by
  unfold messagesPlain vMsgs
  rw [given_list]
  show RWire.Value.list _ = RWire.Value.list (((gotLog false e).reverse).map _)
  congr 1
  refine List.map_congr_left fun x _ => ?_
  rw [given_list]
  congr 1
  refine List.map_congr_left fun m _ => ?_
  rw [given_list]
  exact congrArg RWire.Value.list (List.map_congr_left fun n _ => given_nat n)
def absC (c : Chain) : List ML := c.map absL
def absN (n : Net) : MNet := ⟨n.window, n.circuits.map absC⟩
theorem quiet_abs (c : Chain) : quietC (absC c) = quiet c := by
  unfold quietC absC quiet
  rw [List.all_map]
  congr 1
  funext l
  show ((l.rl.isEmpty && l.lr.isEmpty) : Bool) = (l.lr.isEmpty && l.rl.isEmpty)
  rw [Bool.and_comm]
theorem given_state (n : Net) : given (statePlain n) = vState (absN n) := by
  have e0 : (units "window").map octetOf = oN "window" := by decide +kernel
  have e1 : (units "quiet").map octetOf = oN "quiet" := by decide +kernel
  unfold statePlain vState
  rw [given_rec]
  show RWire.Value.record [((units "window").map octetOf, given (nat n.window)), ((units "quiet").map octetOf, given (.arr (n.circuits.map fun c => .bool (quiet c))))] = .record [_, (_, .list ((n.circuits.map absC).map fun L => RWire.Value.bool (quietC L)))]
  rw [given_nat, given_list, e0, e1, List.map_map]
  have e2 : (n.circuits.map fun c => given (.bool (quiet c))) = n.circuits.map ((fun L => RWire.Value.bool (quietC L)) ∘ absC) := List.map_congr_left fun c _ => by
    rw [given_bool]
    show _ = RWire.Value.bool (quietC (absC c))
    rw [quiet_abs]
  rw [e2]; rfl
theorem given_step (p : Plain) (b : Bool) : given (iteration p b) = vStep (given p) b := by
  have e0 : (units "value").map octetOf = oN "value" := by decide +kernel
  have e1 : (units "done").map octetOf = oN "done" := by decide +kernel
  unfold iteration vStep
  rw [given_rec]
  show RWire.Value.record [((units "value").map octetOf, given p), ((units "done").map octetOf, given (.bool b))] = _
  rw [given_bool, e0, e1]
end Rl
end
section
set_option Elab.async false
set_option linter.all false
set_option maxRecDepth 100000
set_option maxHeartbeats 4000000
/-! RlP3: each call on a circuit: the specification's function against the mirror's. -/
namespace Rl
open PySem (Str)
open R7251g.Spec hiding text record
open Rust (octetOf unitOf taken given)

structure NInv (n : Net) : Prop where
  h1 : 1 ≤ n.circuits.length
  h8 : n.circuits.length ≤ 8
  c : ∀ c ∈ n.circuits, ChInv c ∧ 1 ≤ c.length ∧ c.length ≤ 7
def CR (n : Net) (k : Nat) : Res (Plain × Net) → MRes → Prop := RelR fun y z => given y.1 = z.1 ∧ absN y.2 = (absN n).withC k z.2 ∧ NInv y.2
theorem absC_length (c : Chain) : (absC c).length = c.length := List.length_map ..
theorem with_ok {n : Net} (h : NInv n) {k : Nat} {c c' : Chain} (hk : n.circuits[k]? = some c) {L : List ML} (e : c'.map absL = L) (i : ChInv c') (l : c'.length = c.length) : absN (n.with k c') = (absN n).withC k L ∧ NInv (n.with k c') := by
  refine ⟨?_, ⟨?_, ?_, ?_⟩⟩
  · show MNet.mk n.window ((n.circuits.set k c').map absC) = ⟨n.window, (n.circuits.map absC).set k L⟩
    rw [List.map_set]
    show MNet.mk n.window ((n.circuits.map absC).set k (c'.map absL)) = _
    rw [e]
  · show 1 ≤ (n.circuits.set k c').length
    rw [List.length_set]; exact h.h1
  · show (n.circuits.set k c').length ≤ 8
    rw [List.length_set]; exact h.h8
  · intro d hd
    rcases List.mem_or_eq_of_mem_set hd with q | q
    · exact h.c d q
    · have := h.c c (List.mem_of_getElem? hk)
      rw [q]; exact ⟨i, by rw [l]; exact this.2.1, by rw [l]; exact this.2.2⟩
theorem same_ok {n : Net} (h : NInv n) {k : Nat} {c : Chain} (hk : n.circuits[k]? = some c) : absN n = (absN n).withC k (absC c) ∧ NInv n := by
  refine ⟨?_, h⟩
  have e : (n.circuits.map absC)[k]? = some (absC c) := by rw [List.getElem?_map, hk]; rfl
  have e2 : (n.circuits.map absC).set k (absC c) = n.circuits.map absC := by
    obtain ⟨l, q⟩ := List.getElem?_eq_some_iff.mp e
    rw [← q, List.set_getElem_self]
  show MNet.mk n.window (n.circuits.map absC) = ⟨n.window, (n.circuits.map absC).set k (absC c)⟩
  rw [e2]
theorem and_then {α β γ : Type} (x : Res α) (f : α → Res β) (g : β → Res γ) : andThen (andThen x f) g = andThen x fun a => andThen (f a) g := by
  cases x <;> rfl
section
variable {n : Net} {v : RWire.Value} {k : Nat} {c : Chain} {L : List ML} {a2 a3 a4 : RWire.Value}
/-- the circuit that an argument names -/
theorem rel_circ {α β : Type} {R : α → β → Prop} {f : Nat × Chain → Res α} {g : Nat → Except (Int × Str) β} (hN : NInv n) (hp : Pl v) (h : ∀ k c, n.circuits[k]? = some c → ChInv c → 1 ≤ c.length → c.length ≤ 7 → RelR R (f (k, c)) (g k)) :
    RelR R (andThen (circuitArg n (taken v)) f) (numM v "circuit" 0 ((absN n).cs.length - 1) g) := by
  unfold circuitArg
  rw [and_then]
  have e : (absN n).cs.length = n.circuits.length := List.length_map ..
  rw [e]
  refine rel_num hp nm_circuit (by omega) (by have := hN.h8; omega) fun k _ hk _ => ?_
  have := hN.h1
  have hk : k < n.circuits.length := by omega
  rw [List.getElem?_eq_getElem hk]
  obtain ⟨i, l1, l2⟩ := hN.c _ (List.getElem_mem hk)
  exact h k _ (List.getElem?_eq_getElem hk) i l1 l2
theorem rel_ref {c' : Chain → Chain} {r : Except Refusal Chain} {o : Option Refusal} {p : Plain} {v : RWire.Value} (hN : NInv n) (hk : n.circuits[k]? = some c) (hv : given p = v)
    (h : match o with
      | some e => r = .error e
      | none => ∃ y, r = .ok y ∧ (c' y).map absL = L ∧ ChInv (c' y) ∧ (c' y).length = c.length) :
    CR n k (orRefuse r fun d => (p, n.with k (c' d))) (refM o (.ok (v, L))) := by
  cases o with
  | some e =>
    have h : r = .error e := h
    rw [h]
    exact ref_err e
  | none =>
    obtain ⟨y, h, e, i, l⟩ := h
    rw [h]
    exact ⟨hv, with_ok hN hk e i l⟩
theorem given_undef : given .undef = .nothing := by unfold given; rfl
theorem given_null : given .null = .null := by unfold given; rfl
theorem cr_send (hN : NInv n) (hk : n.circuits[k]? = some c) (hI : ChInv c) (h1 : 1 ≤ c.length) (p2 : Pl a2) (p3 : Pl a3) (p4 : Pl a4) :
    CR n k (andThen (sideArg "end" (taken a2)) fun b => andThen (rangeArg "value" 0 255 (taken a3)) fun m => andThen (boolArg "more" (taken a4)) fun o => orRefuse (sendAt n.window false (seen b c) ⟨m, o⟩) fun d => (.undef, n.with k (seen b d)))
      (sendM (absC c) n.window a2 a3 a4) := by
  refine rel_side p2 nm_end fun b => rel_num p3 nm_value (by omega) (by omega) fun m _ _ _ => ?_
  rw [more_taken a4 p4]
  cases moreV a4 with
  | none => exact more_err
  | some o => exact rel_ref hN hk given_undef (send_dir hI h1 n.window b false ⟨m, o⟩)
theorem cr_urge (hN : NInv n) (hk : n.circuits[k]? = some c) (hI : ChInv c) (h1 : 1 ≤ c.length) (p2 : Pl a2) (p3 : Pl a3) :
    CR n k (andThen (sideArg "end" (taken a2)) fun b => andThen (rangeArg "value" 0 255 (taken a3)) fun m => orRefuse (sendAt n.window true (seen b c) ⟨m, false⟩) fun d => (.undef, n.with k (seen b d)))
      (urgeM (absC c) n.window a2 a3) :=
  rel_side p2 nm_end fun b => rel_num p3 nm_value (by omega) (by omega) fun m _ _ _ => rel_ref hN hk given_undef (send_dir hI h1 n.window b true ⟨m, false⟩)
theorem cr_read (u : Bool) (hN : NInv n) (hk : n.circuits[k]? = some c) (hI : ChInv c) (h1 : 1 ≤ c.length) (p2 : Pl a2) :
    CR n k (andThen (sideArg "end" (taken a2)) fun b => match readAt u (seen b c) with
      | some y => .ok (packetPlain y.1, n.with k (seen b y.2))
      | none => .ok (.null, n)) (readM (absC c) u a2) := by
  refine rel_side p2 nm_end fun b => ?_
  have h := read_dir hI h1 b u
  unfold absC
  revert h
  cases boxC (c.map absL) b u with
  | nil =>
    intro h
    have h : readAt u (seen b c) = none := h
    rw [h]
    exact ⟨given_null, same_ok hN hk⟩
  | cons p r =>
    intro h
    obtain ⟨y, h, e, i, l⟩ := h
    rw [h]
    exact ⟨given_pk p, with_ok hN hk e i l⟩
theorem cr_fwd (u : Bool) (hN : NInv n) (hk : n.circuits[k]? = some c) (hI : ChInv c) (h1 : 1 ≤ c.length) (h7 : c.length ≤ 7) (p2 : Pl a2) (p3 : Pl a3) :
    CR n k (andThen (nodeArg 1 (c.length - 1) (taken a2)) fun m => andThen (sideArg "direction" (taken a3)) fun b => orRefuse (forwardAt n.window u (seen (!b) c) (if b then m else c.length - m)) fun y => (.undef, n.with k (seen (!b) y)))
      (fwdM (absC c) n.window u a2 a3) := by
  unfold fwdM nodeArg
  rw [absC_length]
  exact rel_num p2 nm_node (by omega) (by omega) fun m m1 m2 _ => rel_side p3 nm_dir fun b => rel_ref hN hk given_undef (forward_dir hI m1 (by omega) n.window b u)
theorem cr_reset (hN : NInv n) (hk : n.circuits[k]? = some c) (hI : ChInv c) (h7 : c.length ≤ 7) (p2 : Pl a2) :
    CR n k (andThen (nodeArg 0 c.length (taken a2)) fun m => .ok (.undef, n.with k (resetAt c m))) (resM (absC c) a2) := by
  unfold resM nodeArg
  rw [absC_length]
  exact rel_num p2 nm_node (by omega) (by omega) fun m _ _ _ => ⟨given_undef, with_ok hN hk (reset_is c m) (inv_resetAt hI) (resetAt_length c m)⟩
theorem cr_run (hN : NInv n) (hk : n.circuits[k]? = some c) (hI : ChInv c) (p2 : Pl a2) :
    CR n k (andThen (rangeArg "limit" 0 1000 (taken a2)) fun l => .ok (nat (runChain n.window l c).1, n.with k (runChain n.window l c).2)) (runM (absC c) n.window a2) :=
  rel_num p2 nm_limit (by omega) (by omega) fun m _ _ _ => by
    obtain ⟨e1, e2, i, l⟩ := run_spec n.window m hI
    refine ⟨?_, with_ok hN hk e2 i l⟩
    show given (nat _) = RWire.Value.int ((runC n.window m (c.map absL)).1 : Nat)
    rw [given_nat, e1]
theorem headC_spec {c : Chain} {j : Nat} (h : j < c.length) (b : Bool) : headC (absC c) j b = (if b then (c.getD j freshLink).lr else (c.getD j freshLink).rl).head? := by
  unfold headC absC
  rw [List.getElem?_map, List.getElem?_eq_getElem h, List.getD_eq_getElem?_getD, List.getElem?_eq_getElem h]
  cases b <;> rfl
theorem given_kindT (i : Item) : given (R7251g.Spec.text (itemText i)) = .text (oN (kindS i)) := by
  unfold R7251g.Spec.text given Rust.givenText
  have e := kind_units i
  unfold itemText
  rw [e]; rfl
theorem cr_deliver (hN : NInv n) (hk : n.circuits[k]? = some c) (hI : ChInv c) (h1 : 1 ≤ c.length) (h7 : c.length ≤ 7) (p2 : Pl a2) (p3 : Pl a3) :
    CR n k (andThen (linkArg c (taken a2)) fun i => andThen (sideArg "direction" (taken a3)) fun b =>
      match deliverAt (seen (!b) c) (if b then i else c.length - 1 - i) with
      | some y => .ok (R7251g.Spec.text ((((if b then (c.getD i freshLink).lr else (c.getD i freshLink).rl).head?).map itemText).getD ""), n.with k (seen (!b) y))
      | none => .ok (.null, n)) (delM (absC c) a2 a3) := by
  unfold delM linkArg
  rw [absC_length]
  refine rel_num p2 nm_link (by omega) (by omega) fun i _ hi _ => rel_side p3 nm_dir fun b => ?_
  obtain ⟨d1, d2⟩ := deliver_dir hI (k := i) (by omega) b
  have e := headC_spec (c := c) (j := i) (by omega) b
  rw [← e]
  have e' : headC (absC c) i b = headC (c.map absL) i b := rfl
  cases q : headC (absC c) i b with
  | none =>
    rw [d1 (e' ▸ q)]
    exact ⟨given_null, same_ok hN hk⟩
  | some x =>
    obtain ⟨y, h, e, j, l⟩ := d2 x (e' ▸ q)
    rw [h]
    exact ⟨given_kindT x, with_ok hN hk e j l⟩
theorem term_spec {c : Chain} (h : 1 ≤ c.length) (b : Bool) : (at_ (absC c) (termOf (absC c) b)).e b = absE (terminal c b) := by
  unfold absC
  rw [getD_abs (by
    have := term_lt (c := c.map absL) b (by rw [List.length_map]; omega)
    rw [List.length_map] at this
    exact this)]
  cases b with
  | false =>
    cases c with
    | nil => cases h
    | cons l r => rfl
  | true =>
    show absE (c.getD ((c.map absL).length - 1) freshLink).right = absE ((((c.map Link.flip).reverse).headD freshLink).left)
    rw [List.length_map]
    congr 1
    rw [List.headD_eq_head?_getD, List.head?_reverse, List.getLast?_map, List.getLast?_eq_getElem?, List.getD_eq_getElem?_getD, List.getElem?_eq_getElem (by omega)]
    rfl
/-- calls that change nothing -/
def CS (L : List ML) : Res Plain → MRes → Prop := RelR fun y z => given y = z.1 ∧ z.2 = L
theorem cs_log (u : Bool) (h1 : 1 ≤ c.length) (p2 : Pl a2) : CS (absC c) (andThen (sideArg "end" (taken a2)) fun b => .ok (logPlain u (terminal c b))) (logM (absC c) u a2) :=
  rel_side p2 nm_end fun b => ⟨by rw [given_log, term_spec h1], rfl⟩
theorem cs_msgs (h1 : 1 ≤ c.length) (p2 : Pl a2) : CS (absC c) (andThen (sideArg "end" (taken a2)) fun b => .ok (messagesPlain (terminal c b))) (msgsM (absC c) a2) :=
  rel_side p2 nm_end fun b => ⟨by rw [given_msgs, term_spec h1], rfl⟩
theorem cs_link (hI : ChInv c) (h1 : 1 ≤ c.length) (h7 : c.length ≤ 7) (p2 : Pl a2) : CS (absC c) (andThen (linkArg c (taken a2)) fun i => .ok (linkPlain (c.getD i freshLink))) (linkM (absC c) a2) := by
  unfold linkM linkArg
  rw [absC_length]
  refine rel_num p2 nm_link (by omega) (by omega) fun i _ hi _ => ⟨?_, rfl⟩
  have hi : i < c.length := by omega
  show given (linkPlain (c.getD i freshLink)) = vLink (at_ (c.map absL) i)
  rw [getD_abs hi]
  refine given_link (hI _ ?_)
  rw [List.getD_eq_getElem?_getD, List.getElem?_eq_getElem hi]
  exact List.getElem_mem hi
end
end Rl
end
section
set_option Elab.async false
set_option linter.all false
set_option maxRecDepth 100000
set_option maxHeartbeats 4000000
/-! RlP4: the state of the specification against the mirror's; each call. -/
namespace Rl
open PySem (Str)
open R7251g.Spec hiding text record step World
open Rust (octetOf unitOf taken given takenAll takenFields givenAll givenFields)

/-! ### what is handed in and out again -/
theorem octet_unit (u : List UInt8) : (u.map unitOf).map octetOf = u := by
  rw [List.map_map]
  have e : ∀ o : UInt8, (octetOf ∘ unitOf) o = o := fun o => by
    show UInt8.ofNat (UInt16.ofNat o.toNat).toNat = o
    rw [UInt16.toNat_ofNat']
    have := o.toNat_lt
    rw [Nat.mod_eq_of_lt (by omega)]
    exact UInt8.ofNat_toNat
  rw [show (octetOf ∘ unitOf) = id from funext e, List.map_id]
mutual
theorem given_taken : ∀ v : RWire.Value, RWire.noBig v = true → RWire.noOctets v = true → RWire.noWide v = true → given (taken v) = v
  | .nothing, _, _, _ => by unfold taken given; rfl
  | .null, _, _, _ => by unfold taken given; rfl
  | .bool b, _, _, _ => by unfold taken given; rfl
  | .int i, _, _, _ => by unfold taken given; rfl
  | .big i, h, _, _ => by simp [RWire.noBig] at h
  | .text u, _, _, _ => by
    unfold taken given Rust.givenText
    rw [octet_unit]; rfl
  | .wide u, _, _, h => by simp [RWire.noWide] at h
  | .octets u, _, h, _ => by simp [RWire.noOctets] at h
  | .list l, h1, h2, h3 => by
    unfold taken given
    unfold RWire.noBig at h1
    unfold RWire.noOctets at h2
    unfold RWire.noWide at h3
    rw [given_takenAll l h1 h2 h3]
  | .record l, h1, h2, h3 => by
    unfold taken given
    unfold RWire.noBig at h1
    unfold RWire.noOctets at h2
    unfold RWire.noWide at h3
    rw [given_takenFields l h1 h2 h3]
theorem given_takenAll : ∀ l : List RWire.Value, RWire.noBigMany l = true → RWire.noOctetsMany l = true → RWire.noWideMany l = true → givenAll (takenAll l) = l
  | [], _, _, _ => by unfold takenAll givenAll; rfl
  | v :: r, h1, h2, h3 => by
    unfold takenAll givenAll
    unfold RWire.noBigMany at h1
    unfold RWire.noOctetsMany at h2
    unfold RWire.noWideMany at h3
    rw [Bool.and_eq_true] at h1 h2 h3
    rw [given_taken v h1.1 h2.1 h3.1, given_takenAll r h1.2 h2.2 h3.2]
theorem given_takenFields : ∀ l : List (RWire.Text × RWire.Value), RWire.noBigEntries l = true → RWire.noOctetsEntries l = true → RWire.noWideEntries l = true → givenFields (takenFields l) = l
  | [], _, _, _ => by unfold takenFields givenFields; rfl
  | (n, v) :: r, h1, h2, h3 => by
    unfold takenFields givenFields
    unfold RWire.noBigEntries at h1
    unfold RWire.noOctetsEntries at h2
    unfold RWire.noWideEntries at h3
    rw [Bool.and_eq_true] at h1 h2 h3
    rw [given_taken v h1.1 h2.1 h3.1, given_takenFields r h1.2 h2.2 h3.2, octet_unit]
end

/-! ### the state -/
def absK (r : Walk) : MWlk := ⟨r.net, r.circuit, r.ended⟩
structure WRel (w : R7251g.Spec.World) (W : MW) : Prop where
  hp : W.heap = w.heap.map absN
  nt : ∀ p, W.nets p = w.nets.getD p none
  wk : ∀ t, W.walks t = (w.walks.getD t none).map absK
  ln : w.nets.length = 2
  lw : w.walks.length = 2
  iv : ∀ n ∈ w.heap, NInv n
  ok : ∀ t r, w.walks.getD t none = some r → ∃ n c, w.heap[r.net]? = some n ∧ n.circuits[r.circuit]? = some c
/-- how a call ends -/
def SR (w : R7251g.Spec.World) (x : R7251g.Spec.World × Ans) : WRes → Prop
  | .ok (v, W') => ∃ p, x.2 = .ret p ∧ given p = v ∧ WRel x.1 W'
  | .error z => ∃ e, x.2 = .fail e ∧ ErrR e z ∧ x.1 = w
theorem start_rel : WRel R7251g.Spec.World.start MW.start := by
  refine ⟨rfl, fun p => ?_, fun t => ?_, rfl, rfl, (fun n h => by cases h), fun t r h => ?_⟩
  · match p with
    | 0 => rfl
    | 1 => rfl
    | p + 2 => rfl
  · match t with
    | 0 => rfl
    | 1 => rfl
    | t + 2 => rfl
  · match t with
    | 0 => cases h
    | 1 => cases h
    | t + 2 => cases h
theorem getD_set {α : Type} {l : List (Option α)} {s : Nat} {x : Option α} (h : s < l.length) (p : Nat) : (l.set s x).getD p none = if p = s then x else l.getD p none := by
  rw [List.getD_eq_getElem?_getD, List.getD_eq_getElem?_getD]
  by_cases e : p = s
  · rw [if_pos e, e, List.getElem?_set, if_pos rfl, if_pos h]; rfl
  · rw [if_neg e, List.getElem?_set_ne (fun z => e z.symm)]
section
variable {w : R7251g.Spec.World} {W : MW} {i s : Nat} {n n' : Net} {N : MNet}
theorem WRel.heapAt (r : WRel w W) (h : w.heap[i]? = some n) : W.heap[i]? = some (absN n) := by rw [r.hp, List.getElem?_map, h]; rfl
theorem WRel.setNet (r : WRel w W) (h : w.heap[i]? = some n) (e : absN n' = N) (v : NInv n') (l : n'.circuits.length = n.circuits.length) : WRel { w with heap := w.heap.set i n' } (W.setNet i N) := by
  refine ⟨?_, r.nt, r.wk, r.ln, r.lw, fun m hm => ?_, fun t m hm => ?_⟩
  · show W.heap.set i N = (w.heap.set i n').map absN
    rw [List.map_set, r.hp, e]
  · rcases List.mem_or_eq_of_mem_set hm with q | q
    · exact r.iv m q
    · rw [q]; exact v
  · obtain ⟨n0, c, h1, h2⟩ := r.ok t m hm
    show ∃ n c, (w.heap.set i n')[m.net]? = some n ∧ n.circuits[m.circuit]? = some c
    by_cases hj : m.net = i
    · rw [hj, h] at h1
      cases h1
      rw [hj, List.getElem?_set, if_pos rfl, if_pos (List.getElem?_eq_some_iff.mp h).1]
      have hl : m.circuit < n'.circuits.length := by rw [l]; exact (List.getElem?_eq_some_iff.mp h2).1
      exact ⟨n', _, rfl, List.getElem?_eq_getElem hl⟩
    · exact ⟨n0, c, by rw [List.getElem?_set_ne (fun z => hj z.symm)]; exact h1, h2⟩
theorem WRel.new (r : WRel w W) (hs : s < 2) (e : absN n = N) (v : NInv n) : WRel { w with heap := w.heap ++ [n], nets := w.nets.set s (some w.heap.length) } ⟨W.heap ++ [N], upN W.nets s (some W.heap.length), W.walks⟩ := by
  refine ⟨?_, fun p => ?_, r.wk, ?_, r.lw, fun m hm => ?_, fun t m hm => ?_⟩
  · show W.heap ++ [N] = (w.heap ++ [n]).map absN
    rw [List.map_append, r.hp, ← e]; rfl
  · show upN W.nets s (some W.heap.length) p = (w.nets.set s (some w.heap.length)).getD p none
    rw [getD_set (by rw [r.ln]; exact hs), r.hp, List.length_map]
    unfold upN
    rw [r.nt p]
  · show (w.nets.set s _).length = 2
    rw [List.length_set]; exact r.ln
  · have hm : m ∈ w.heap ++ [n] := hm
    rcases List.mem_append.mp hm with q | q
    · exact r.iv m q
    · rw [List.mem_singleton] at q
      rw [q]; exact v
  · obtain ⟨n0, c, h1, h2⟩ := r.ok t m hm
    exact ⟨n0, c, by show (w.heap ++ [n])[m.net]? = _; rw [List.getElem?_append_left (List.getElem?_eq_some_iff.mp h1).1]; exact h1, h2⟩
theorem WRel.walk (r : WRel w W) (hs : s < 2) {m : Walk} {M : MWlk} (e : absK m = M) (v : ∃ n c, w.heap[m.net]? = some n ∧ n.circuits[m.circuit]? = some c) : WRel { w with walks := w.walks.set s (some m) } { W with walks := upN W.walks s (some M) } := by
  refine ⟨r.hp, r.nt, fun p => ?_, r.ln, ?_, r.iv, fun t k hk => ?_⟩
  · show upN W.walks s (some M) p = ((w.walks.set s (some m)).getD p none).map absK
    rw [getD_set (by rw [r.lw]; exact hs)]
    unfold upN
    by_cases q : p = s
    · rw [if_pos q, if_pos q, ← e]; rfl
    · rw [if_neg q, if_neg q, r.wk p]
  · show (w.walks.set s _).length = 2
    rw [List.length_set]; exact r.lw
  · have hk : (w.walks.set s (some m)).getD t none = some k := hk
    rw [getD_set (by rw [r.lw]; exact hs)] at hk
    by_cases q : t = s
    · rw [if_pos q] at hk
      cases hk
      exact v
    · rw [if_neg q] at hk
      exact r.ok t k hk
end
end Rl
end
section
set_option Elab.async false
set_option linter.all false
set_option maxRecDepth 100000
set_option maxHeartbeats 4000000
/-! RlP5: each call of the library, the specification against the mirror. -/
namespace Rl
open PySem (Str)
open R7251g.Spec hiding text record step World
open Rust (octetOf unitOf taken given takenAll takenFields givenAll givenFields)
section
variable {w : R7251g.Spec.World} {W : MW} {i s p k : Nat} {n n' : Net} {N : MNet} {v a1 a2 a3 a4 : RWire.Value} {c : Chain}
theorem net_get (h : hasNet w p = true) : p < 2 ∧ ∃ i n, w.nets.getD p none = some i ∧ w.heap[i]? = some n := by
  unfold hasNet at h
  rw [Bool.and_eq_true] at h
  refine ⟨of_decide_eq_true h.1, ?_⟩
  have k := h.2
  unfold netAt netIndex at k
  cases e : w.nets.getD p none with
  | none => rw [e] at k; cases k
  | some i =>
    rw [e] at k
    have k : (w.heap[i]?).isSome = true := k
    cases f : w.heap[i]? with
    | none => rw [f] at k; cases k
    | some n => exact ⟨i, n, rfl, f⟩
theorem walk_get (h : hasWalk w p = true) : p < 2 ∧ ∃ m, w.walks.getD p none = some m := by
  unfold hasWalk at h
  rw [Bool.and_eq_true] at h
  refine ⟨of_decide_eq_true h.1, ?_⟩
  have k := h.2
  unfold walkAt at k
  cases e : w.walks.getD p none with
  | none => rw [e] at k; cases k
  | some m => exact ⟨m, rfl⟩
theorem cs_at (h : n.circuits[k]? = some c) : (absN n).cs.getD k [] = absC c := by
  show (n.circuits.map absC).getD k [] = absC c
  rw [List.getD_eq_getElem?_getD, List.getElem?_map, h]; rfl
theorem sr_change (r : WRel w W) (hp : w.nets.getD p none = some i) (hn : w.heap[i]? = some n) (hv : Pl v) {f : Net → Nat × Chain → Res (Plain × Net)} {g : List ML → MRes}
    (h : ∀ k c, n.circuits[k]? = some c → ChInv c → 1 ≤ c.length → c.length ≤ 7 → CR n k (f n (k, c)) (g (absC c))) :
    SR w (changeNet w p fun n => andThen (circuitArg n (taken v)) (f n)) (circDoor W i (absN n) v g) := by
  have q : RelR (fun (y : Plain × Net) (z : RWire.Value × MW) => given y.1 = z.1 ∧ WRel { w with heap := w.heap.set i y.2 } z.2) (andThen (circuitArg n (taken v)) (f n)) (circDoor W i (absN n) v g) := by
    unfold circDoor
    refine rel_circ (r.iv n (List.mem_of_getElem? hn)) hv fun k c hk hI h1 h7 => ?_
    have q := h k c hk hI h1 h7
    rw [cs_at hk]
    unfold CR at q
    revert q
    cases f n (k, c) with
    | error e => cases g (absC c) with
      | error z => exact fun q => q
      | ok z => exact fun q => q
    | ok y => cases g (absC c) with
      | error z => exact fun q => q
      | ok z =>
        intro q
        obtain ⟨q1, q2, q3⟩ := q
        refine ⟨q1, r.setNet hn q2 q3 ?_⟩
        have e := congrArg (fun N : MNet => N.cs.length) q2
        have e : (y.2.circuits.map absC).length = ((n.circuits.map absC).set k z.2).length := e
        rw [List.length_set, List.length_map, List.length_map] at e
        exact e
  unfold changeNet netIndex
  rw [hp]
  dsimp only
  rw [hn]
  dsimp only
  revert q
  cases andThen (circuitArg n (taken v)) (f n) with
  | error e => cases circDoor W i (absN n) v g with
    | error z => exact fun q => ⟨e, rfl, q, rfl⟩
    | ok z => exact fun q => q.elim
  | ok y => cases circDoor W i (absN n) v g with
    | error z => exact fun q => q.elim
    | ok z => exact fun q => ⟨y.1, rfl, q.1, q.2⟩
theorem same_net (r : WRel w W) (hn : w.heap[i]? = some n) (hk : n.circuits[k]? = some c) : WRel w (W.setNet i ((absN n).withC k (absC c))) := by
  have e := (same_ok (r.iv n (List.mem_of_getElem? hn)) hk).1
  have q := r.setNet (n' := n) hn e (r.iv n (List.mem_of_getElem? hn)) rfl
  have e2 : w.heap.set i n = w.heap := by
    obtain ⟨l, z⟩ := List.getElem?_eq_some_iff.mp hn
    rw [← z, List.set_getElem_self]
  rw [e2] at q
  exact q
theorem sr_on (r : WRel w W) (hp : w.nets.getD p none = some i) (hn : w.heap[i]? = some n) (hv : Pl v) {f : Net → Nat × Chain → Res Plain} {g : List ML → MRes}
    (h : ∀ k c, n.circuits[k]? = some c → ChInv c → 1 ≤ c.length → c.length ≤ 7 → CS (absC c) (f n (k, c)) (g (absC c))) :
    SR w (onNet w p fun n => andThen (circuitArg n (taken v)) (f n)) (circDoor W i (absN n) v g) := by
  have q : RelR (fun (y : Plain) (z : RWire.Value × MW) => given y = z.1 ∧ WRel w z.2) (andThen (circuitArg n (taken v)) (f n)) (circDoor W i (absN n) v g) := by
    unfold circDoor
    refine rel_circ (r.iv n (List.mem_of_getElem? hn)) hv fun k c hk hI h1 h7 => ?_
    have q := h k c hk hI h1 h7
    rw [cs_at hk]
    unfold CS at q
    revert q
    cases f n (k, c) with
    | error e => cases g (absC c) with
      | error z => exact fun q => q
      | ok z => exact fun q => q
    | ok y => cases g (absC c) with
      | error z => exact fun q => q
      | ok z =>
        intro q
        obtain ⟨q1, q2⟩ := q
        refine ⟨q1, ?_⟩
        show WRel w (W.setNet i ((absN n).withC k z.2))
        rw [q2]
        exact same_net r hn hk
  have e : netAt w p = some n := by
    unfold netAt netIndex
    rw [hp]
    exact hn
  unfold onNet
  rw [e]
  dsimp only
  revert q
  cases andThen (circuitArg n (taken v)) (f n) with
  | error e => cases circDoor W i (absN n) v g with
    | error z => exact fun q => ⟨e, rfl, q, rfl⟩
    | ok z => exact fun q => q.elim
  | ok y => cases circDoor W i (absN n) v g with
    | error z => exact fun q => q.elim
    | ok z => exact fun q => ⟨y, rfl, q.1, q.2⟩
theorem sr_state (r : WRel w W) (hp : w.nets.getD p none = some i) (hn : w.heap[i]? = some n) : SR w (onNet w p fun n => .ok (statePlain n)) (.ok (vState (absN n), W)) := by
  have e : netAt w p = some n := by
    unfold netAt netIndex
    rw [hp]
    exact hn
  unfold onNet
  rw [e]
  exact ⟨statePlain n, rfl, given_state n, r⟩
theorem sr_restart (r : WRel w W) (hp : w.nets.getD p none = some i) (hn : w.heap[i]? = some n) (hv : Pl v) : SR w (changeNet w p fun n => restartFn n (taken v)) (restartM W i (absN n) v) := by
  have iv := r.iv n (List.mem_of_getElem? hn)
  have q : RelR (fun (y : Plain × Net) (z : RWire.Value × MW) => given y.1 = z.1 ∧ WRel { w with heap := w.heap.set i y.2 } z.2) (restartFn n (taken v)) (restartM W i (absN n) v) := by
    unfold restartFn restartM nodeArg
    have e : ((absN n).cs.headD []).length = (n.circuits.headD []).length := by
      show ((n.circuits.map absC).headD []).length = _
      cases n.circuits with
      | nil => rfl
      | cons c t => exact absC_length c
    have l : (n.circuits.headD []).length ≤ 7 := by
      cases h : n.circuits with
      | nil => exact Nat.zero_le _
      | cons c t => exact (iv.c c (by rw [h]; exact List.mem_cons_self ..)).2.2
    rw [e]
    refine rel_num hv nm_node (by omega) (by omega) fun k _ _ _ => ⟨given_undef, r.setNet hn ?_ ⟨?_, ?_, fun c hc => ?_⟩ ?_⟩
    · show MNet.mk n.window ((n.circuits.map fun c => resetAt c k).map absC) = ⟨n.window, (n.circuits.map absC).map fun L => resetC L k⟩
      rw [List.map_map, List.map_map]
      congr 1
      exact List.map_congr_left fun c _ => reset_is c k
    · show 1 ≤ (n.circuits.map _).length
      rw [List.length_map]; exact iv.h1
    · show (n.circuits.map _).length ≤ 8
      rw [List.length_map]; exact iv.h8
    · obtain ⟨d, hd, rfl⟩ := List.mem_map.mp hc
      obtain ⟨j1, j2, j3⟩ := iv.c d hd
      exact ⟨inv_resetAt j1, by rw [resetAt_length]; exact j2, by rw [resetAt_length]; exact j3⟩
    · show (n.circuits.map _).length = _
      rw [List.length_map]
  unfold changeNet netIndex
  rw [hp]
  dsimp only
  rw [hn]
  dsimp only
  revert q
  cases restartFn n (taken v) with
  | error e => cases restartM W i (absN n) v with
    | error z => exact fun q => ⟨e, rfl, q, rfl⟩
    | ok z => exact fun q => q.elim
  | ok y => cases restartM W i (absN n) v with
    | error z => exact fun q => q.elim
    | ok z => exact fun q => ⟨y.1, rfl, q.1, q.2⟩
end
end Rl
end
section
set_option Elab.async false
set_option linter.all false
set_option maxRecDepth 100000
set_option maxHeartbeats 4000000
/-! RlP6: new nets, walks. -/
namespace Rl
open PySem (Str)
open R7251g.Spec hiding text record step World
open Rust (octetOf unitOf taken given takenAll takenFields givenAll givenFields)
section
variable {w : R7251g.Spec.World} {W : MW} {i s p k : Nat} {n n' : Net} {N : MNet} {v a1 a2 a3 a4 : RWire.Value} {c : Chain}
theorem pl_nothing : Pl .nothing := ⟨rfl, rfl, rfl⟩
theorem memberV_pl {l : List (RWire.Text × RWire.Value)} (h : ∀ (i : Nat) (e : RWire.Text × RWire.Value), l[i]? = some e → Pl e.2) (u : RWire.Text) : Pl (memberV l u) := by
  induction l with
  | nil => unfold memberV; exact pl_nothing
  | cons e r ih =>
    unfold memberV
    by_cases q : e.1 = u
    · rw [if_pos q]; exact h 0 e rfl
    · rw [if_neg q]; exact ih fun i f hf => h (i + 1) f hf
theorem start_abs (m : Nat) : absC (startChain m) = List.replicate m ML.fresh := by
  unfold absC startChain
  rw [List.map_replicate, absL_fresh]
theorem opt_err : ErrR (typeErr "options must be a record") (1, optMsg) := ⟨rfl, by decide +kernel, by decide +kernel, by unfold asc; decide +kernel, .inl rfl⟩
theorem rel_opt (hp : Pl v) : RelR (fun (n : Net) (y : Nat × Nat × Nat) => absN n = ⟨y.2.2, List.replicate y.2.1 (List.replicate (y.1 - 1) ML.fresh)⟩ ∧ NInv n) (optionsArg (taken v)) (optM v) := by
  have u1 : units "nodes" = (oN "nodes").map unitOf := by decide +kernel
  have u2 : units "circuits" = (oN "circuits").map unitOf := by decide +kernel
  have u3 : units "window" = (oN "window").map unitOf := by decide +kernel
  cases v with
  | record l =>
    have pm : ∀ u, Pl (memberV l u) := fun u => memberV_pl (fun i e h => hp.ents h) u
    unfold taken
    unfold optionsArg optM
    dsimp only
    rw [field_taken "nodes" _ u1, field_taken "circuits" _ u2, field_taken "window" _ u3]
    refine rel_num (pm _) nm_nodes (by omega) (by omega) fun a a1 a2 _ => rel_num (pm _) nm_circuits (by omega) (by omega) fun b b1 b2 _ => rel_num (pm _) nm_window (by omega) (by omega) fun d d1 d2 _ => ⟨?_, ?_, ?_, fun c hc => ?_⟩
    · show MNet.mk d ((List.replicate b (startChain (a - 1))).map absC) = _
      rw [List.map_replicate, start_abs]
    · show 1 ≤ (List.replicate b _).length
      rw [List.length_replicate]; exact b1
    · show (List.replicate b _).length ≤ 8
      rw [List.length_replicate]; exact b2
    · have hc : c ∈ List.replicate b (startChain (a - 1)) := hc
      rw [List.eq_of_mem_replicate hc]
      refine ⟨fun l hl => ?_, ?_, ?_⟩
      · have hl : l ∈ List.replicate (a - 1) freshLink := hl
        rw [List.eq_of_mem_replicate hl]
        exact LInv.fresh
      · show 1 ≤ (List.replicate (a - 1) freshLink).length
        rw [List.length_replicate]; omega
      · show (List.replicate (a - 1) freshLink).length ≤ 7
        rw [List.length_replicate]; omega
  | octets u => exact absurd hp.o (by simp [RWire.noOctets])
  | big u => exact absurd hp.b (by simp [RWire.noBig])
  | wide u => exact absurd hp.w (by simp [RWire.noWide])
  | _ =>
    unfold taken
    exact opt_err
theorem sr_new (r : WRel w W) (hs : s < 2) (hp : Pl v) : SR w (R7251g.Spec.step w (.netNew s (taken v))) (newM W s v) := by
  have q := rel_opt hp
  show SR w (match optionsArg (taken v) with
    | .ok n => ({ w with heap := w.heap ++ [n], nets := w.nets.set s (some w.heap.length) }, .ret .undef)
    | .error e => (w, .fail e)) (match optM v with
    | .error e => .error e
    | .ok (n, c, w) => .ok (.nothing, ⟨W.heap ++ [⟨w, List.replicate c (List.replicate (n - 1) ML.fresh)⟩], upN W.nets s (some W.heap.length), W.walks⟩))
  revert q
  cases optionsArg (taken v) with
  | error e => cases optM v with
    | error z => exact fun q => ⟨e, rfl, q, rfl⟩
    | ok z => exact fun q => q.elim
  | ok y => cases optM v with
    | error z => exact fun q => q.elim
    | ok z =>
      intro q
      obtain ⟨a, b, d⟩ := z
      exact ⟨.undef, rfl, given_undef, r.new hs q.1 q.2⟩
theorem sr_wnew (r : WRel w W) (hs : s < 2) (hp : w.nets.getD p none = some i) (hn : w.heap[i]? = some n) (hv : Pl v) : SR w (R7251g.Spec.step w (.walkNew s p (taken v))) (wnewM W s i (absN n) v) := by
  have q : RelR (fun (y : Nat × Chain) (z : RWire.Value × MW) => .nothing = z.1 ∧ WRel { w with walks := w.walks.set s (some ⟨i, y.1, false⟩) } z.2) (andThen (circuitArg n (taken v)) .ok) (wnewM W s i (absN n) v) := by
    unfold wnewM
    exact rel_circ (r.iv n (List.mem_of_getElem? hn)) hv fun k c hk _ _ _ => ⟨rfl, r.walk hs rfl ⟨n, c, hn, hk⟩⟩
  have e : andThen (circuitArg n (taken v)) .ok = circuitArg n (taken v) := by cases circuitArg n (taken v) <;> rfl
  rw [e] at q
  unfold R7251g.Spec.step netIndex
  dsimp only
  rw [hp]
  dsimp only
  rw [hn]
  dsimp only
  revert q
  cases circuitArg n (taken v) with
  | error e => cases wnewM W s i (absN n) v with
    | error z => exact fun q => ⟨e, rfl, q, rfl⟩
    | ok z => exact fun q => q.elim
  | ok y => cases wnewM W s i (absN n) v with
    | error z => exact fun q => q.elim
    | ok z => exact fun q => ⟨.undef, rfl, given_undef.trans q.1, q.2⟩
theorem sr_ret (r : WRel w W) (hs : s < 2) {m : Walk} (hm : w.walks.getD s none = some m) (hv : Pl v) : SR w (R7251g.Spec.step w (.walkReturn s (taken v))) (.ok (retM W s (absK m) v)) := by
  unfold R7251g.Spec.step walkAt
  dsimp only
  rw [hm]
  refine ⟨_, rfl, ?_, r.walk hs rfl (r.ok s m hm)⟩
  rw [given_step, given_taken v hv.b hv.o hv.w]
end
end Rl
end
section
set_option Elab.async false
set_option linter.all false
set_option maxRecDepth 100000
set_option maxHeartbeats 4000000
/-! RlP7: a walk's next step. -/
namespace Rl
open PySem (Str)
open R7251g.Spec hiding text record step World
open Rust (octetOf unitOf taken given takenAll takenFields givenAll givenFields)
section
variable {w : R7251g.Spec.World} {W : MW} {i s p k : Nat} {n n' : Net} {N : MNet} {v a1 a2 a3 a4 : RWire.Value} {c : Chain}
theorem given_ev3 (t d : Plain) (a : Nat) (x y : RWire.Value) (ht : given t = x) (hd : given d = y) : given (R7251g.Spec.record [("what", t), ("at", nat a), ("direction", d)]) = .record [(oN "what", x), (oN "at", .int (a : Nat)), (oN "direction", y)] := by
  have e0 : (units "what").map octetOf = oN "what" := by decide +kernel
  have e1 : (units "at").map octetOf = oN "at" := by decide +kernel
  have e2 : (units "direction").map octetOf = oN "direction" := by decide +kernel
  rw [given_rec]
  show RWire.Value.record [((units "what").map octetOf, given t), ((units "at").map octetOf, given (nat a)), ((units "direction").map octetOf, given d)] = _
  rw [ht, hd, given_nat, e0, e1, e2]
theorem given_dir (b : Bool) : given (R7251g.Spec.text (if b then "right" else "left")) = .text (oN (sText b)) := by
  cases b
  · exact given_str "left" (by decide +kernel)
  · exact given_str "right" (by decide +kernel)
theorem given_fwd (u : Bool) : given (R7251g.Spec.text (if u then "forward urgent" else "forward")) = .text (oN (fwdS u)) := by
  cases u
  · exact given_str "forward" (by decide +kernel)
  · exact given_str "forward urgent" (by decide +kernel)
theorem given_head {o : Option Item} {x : Item} (h : o = some x) : given (R7251g.Spec.text ((o.map itemText).getD "")) = .text (oN (kindS x)) := by
  rw [h]; exact given_kindT x
theorem given_event {e : MEv} {wd : Nat} (h : evC (absC c) wd = some e) : given (eventPlain c (toEvent c.length e)) = vEv (absC c) e := by
  have ok := evC_ok h
  cases e with
  | dl d k =>
    obtain ⟨hk, hq⟩ := ok
    rw [absC_length] at hk
    have e1 := headC_spec (c := c) hk d
    rw [hasQ_head (by rw [absC_length]; exact hk)] at hq
    obtain ⟨x, hx⟩ := Option.isSome_iff_exists.mp hq
    have ew : whatS (absC c) (.dl d k) = kindS x := by
      unfold whatS
      dsimp only
      rw [hx]
    unfold vEv
    rw [ew]
    cases d with
    | true => exact given_ev3 _ _ _ _ _ (given_head (e1.symm.trans hx)) (given_dir true)
    | false =>
      have q : c.length - 1 - (c.length - 1 - k) = k := by omega
      show given (R7251g.Spec.record [("what", R7251g.Spec.text (((c.getD (c.length - 1 - (c.length - 1 - k)) freshLink).rl.head?.map itemText).getD "")), ("at", nat (c.length - 1 - (c.length - 1 - k))), ("direction", R7251g.Spec.text "left")]) = _
      rw [q]
      exact given_ev3 _ _ _ _ _ (given_head (e1.symm.trans hx)) (given_dir false)
  | fw u d m =>
    obtain ⟨h1, h2, _⟩ := ok
    rw [absC_length] at h2
    cases d with
    | true => exact given_ev3 _ _ _ _ _ (given_fwd u) (given_dir true)
    | false =>
      have q : c.length - (c.length - m) = m := by omega
      show given (R7251g.Spec.record [("what", R7251g.Spec.text (if u then "forward urgent" else "forward")), ("at", nat (c.length - (c.length - m))), ("direction", R7251g.Spec.text "left")]) = _
      rw [q]
      exact given_ev3 _ _ _ _ _ (given_fwd u) (given_dir false)
theorem walk_same {x : Option Walk} (h : w.walks.getD s none = x) (hs : s < w.walks.length) : w.walks.set s x = w.walks := by
  rw [List.getD_eq_getElem?_getD, List.getElem?_eq_getElem hs] at h
  have h : w.walks[s] = x := h
  rw [← h, List.set_getElem_self]
theorem sr_next (r : WRel w W) (hs : s < 2) {m : Walk} (hm : w.walks.getD s none = some m) (hn : w.heap[m.net]? = some n) (hc : n.circuits[m.circuit]? = some c) : SR w (R7251g.Spec.step w (.walkNext s)) (.ok (nextM W s (absK m) (absN n) (absC c))) := by
  have iv := r.iv n (List.mem_of_getElem? hn)
  have hI := (iv.c c (List.mem_of_getElem? hc)).1
  have base := same_net r hn hc
  have hl : s < w.walks.length := by rw [r.lw]; exact hs
  have sp := evC_spec hI n.window
  show SR w (nextOfWalk w s) _
  unfold nextOfWalk walkAt
  rw [hm]
  dsimp only
  cases b : m.ended with
  | true =>
    rw [if_pos rfl]
    refine ⟨_, rfl, ?_, ?_⟩
    · show given (iteration .undef true) = walkV (absK m).ended (absC c) n.window
      rw [show (absK m).ended = true from b, given_step, given_undef]
      rfl
    · have q := base.walk (s := s) hs (m := m) (M := absK m) rfl (base.ok s m hm)
      rw [walk_same hm hl] at q
      have e1 : walkL (absK m).ended (absC c) n.window = absC c := by
        rw [show (absK m).ended = true from b]; rfl
      have e2 : walkE (absK m).ended (absC c) n.window = (absK m).ended := by
        rw [show (absK m).ended = true from b]; rfl
      show WRel w { W with heap := W.heap.set m.net ((absN n).withC m.circuit (walkL (absK m).ended (absC c) n.window)), walks := upN W.walks s (some { absK m with ended := walkE (absK m).ended (absC c) n.window }) }
      rw [e1, e2]
      exact q
  | false =>
    rw [if_neg Bool.false_ne_true, hn]
    dsimp only
    rw [hc]
    dsimp only
    have bK : (absK m).ended = false := b
    cases h : evC (absC c) n.window with
    | none =>
      have h' : evC (c.map absL) n.window = none := h
      rw [h'] at sp
      rw [← sp]
      refine ⟨_, rfl, ?_, ?_⟩
      · show given (iteration .undef true) = walkV (absK m).ended (absC c) n.window
        unfold walkV
        rw [bK, h, given_step, given_undef, if_neg Bool.false_ne_true]
      · have q := base.walk (s := s) hs (m := { m with ended := true }) (M := { absK m with ended := true }) rfl (base.ok s m hm)
        have e1 : walkL (absK m).ended (absC c) n.window = absC c := by
          unfold walkL nextL
          rw [bK, h]; rfl
        have e2 : walkE (absK m).ended (absC c) n.window = true := by
          unfold walkE
          rw [bK, h]; rfl
        show WRel _ { W with heap := W.heap.set m.net ((absN n).withC m.circuit (walkL (absK m).ended (absC c) n.window)), walks := upN W.walks s (some { absK m with ended := walkE (absK m).ended (absC c) n.window }) }
        rw [e1, e2]
        exact q
    | some e =>
      have h' : evC (c.map absL) n.window = some e := h
      rw [h'] at sp
      rw [← sp]
      obtain ⟨v1, v2, v3⟩ := event_spec hI n.window h'
      obtain ⟨x1, x2⟩ := with_ok iv hc v1 v2 v3
      refine ⟨_, rfl, ?_, ?_⟩
      · show given (iteration (eventPlain c (toEvent c.length e)) false) = walkV (absK m).ended (absC c) n.window
        unfold walkV
        rw [bK, h, given_step, given_event h, if_neg Bool.false_ne_true]
      · have q0 := r.setNet hn x1 x2 (by show (n.circuits.set _ _).length = _; rw [List.length_set])
        have q := q0.walk (s := s) hs (m := m) (M := absK m) rfl (q0.ok s m hm)
        rw [walk_same hm hl] at q
        have e1 : walkL (absK m).ended (absC c) n.window = doC (absC c) e := by
          unfold walkL nextL
          rw [bK, h]; rfl
        have e2 : walkE (absK m).ended (absC c) n.window = (absK m).ended := by
          unfold walkE
          rw [bK, h]; rfl
        show WRel _ { W with heap := W.heap.set m.net ((absN n).withC m.circuit (walkL (absK m).ended (absC c) n.window)), walks := upN W.walks s (some { absK m with ended := walkE (absK m).ended (absC c) n.window }) }
        rw [e1, e2]
        exact q
end
end Rl
end
section
set_option Elab.async false
set_option linter.all false
set_option maxRecDepth 100000
set_option maxHeartbeats 4000000
/-! RlP8: the doors: what a request asks, and what the mirror does. -/
namespace Rl
open PySem (Str)
open R7251g.Spec hiding text record step World
open Rust (octetOf unitOf taken given takenAll takenFields givenAll givenFields argAt slotAt slotOf taking calls0 calls1 callOf)
section
variable {w : R7251g.Spec.World} {W : MW} {i s p k d : Nat} {n n' : Net} {N : MNet} {v a1 a2 a3 a4 : RWire.Value} {c : Call} {l : List RWire.Value} {F : WRes → Prop}
theorem takenAll_map : ∀ l : List RWire.Value, takenAll l = l.map taken
  | [] => by unfold takenAll; rfl
  | v :: r => by
    unfold takenAll
    rw [takenAll_map r]; rfl
theorem arg_taken (l : List RWire.Value) (i : Nat) : argAt (takenAll l) i = taken (argV l i) := by
  unfold argAt argV
  rw [takenAll_map, List.getD_eq_getElem?_getD, List.getD_eq_getElem?_getD, List.getElem?_map]
  cases l[i]? with
  | none => show _ = taken .nothing; unfold taken; rfl
  | some v => rfl
theorem arg_pl (h : PlMany l) (i : Nat) : Pl (argV l i) := by
  unfold argV
  rw [List.getD_eq_getElem?_getD]
  cases e : l[i]? with
  | none => exact pl_nothing
  | some v => exact h.get e
theorem taking_get {n : Nat} {x : Option Call} (h : taking n (takenAll l) x = some c) : l.length ≤ n ∧ x = some c := by
  unfold taking at h
  rw [takenAll_map, List.length_map] at h
  cases e : Nat.ble l.length n with
  | true =>
    rw [e, if_pos rfl] at h
    exact ⟨Nat.le_of_ble_eq_true e, h⟩
  | false =>
    rw [e, if_neg Bool.false_ne_true] at h
    cases h
theorem slot_get {f : Nat → Option Call} (h : (slotAt (takenAll l) i 1).bind f = some c) : ∃ s : Nat, argV l i = .int (s : Nat) ∧ s < 2 ∧ f s = some c := by
  unfold slotAt at h
  rw [arg_taken] at h
  cases e : argV l i with
  | int z =>
    rw [e] at h
    unfold taken at h
    have h : ((if (decide (0 ≤ z) && Nat.ble z.toNat 1) = true then some z.toNat else none).bind f) = some c := h
    cases q : (decide (0 ≤ z) && Nat.ble z.toNat 1) with
    | true =>
      rw [q, if_pos rfl] at h
      rw [Bool.and_eq_true, decide_eq_true_iff] at q
      have q2 := Nat.le_of_ble_eq_true q.2
      exact ⟨z.toNat, by rw [Int.toNat_of_nonneg q.1], by omega, h⟩
    | false =>
      rw [q, if_neg Bool.false_ne_true] at h
      cases h
  | _ =>
    rw [e] at h
    unfold taken at h
    cases h
theorem door_lt {l : List Plain} (h : callOf d l = some c) : d < 19 := by
  refine Nat.lt_of_not_le fun k => ?_
  unfold callOf at h
  split at h
  · omega
  · unfold calls1 at h
    split at h
    · omega
    · omega
    · omega
    · cases h
  · cases h
def Door (d : Nat) : Prop := ∀ {w : R7251g.Spec.World} {W : MW} {l : List RWire.Value} {c : Call} {F : WRes → Prop}, WRel w W → PlMany l → callOf d (takenAll l) = some c → within w c = true → (∀ x, SR w (R7251g.Spec.step w c) x → F x) → l.length ≤ 5 ∧ CallP W d (argV l) F
theorem door_1 : Door 1 := by
  intro w W l c F r pl h hw hF
  have h : calls0 1 (takenAll l) = some c := h
  unfold calls0 at h
  obtain ⟨hl, h⟩ := taking_get h
  obtain ⟨s, ha, hs, h⟩ := slot_get h
  cases h
  simp only [arg_taken] at hw hF
  have hw := (Bool.and_eq_true _ _ ▸ (show (hasNet w s && fits _) = true from hw)).1
  obtain ⟨_, i, n, hp, hn⟩ := net_get hw
  have iv := r.iv n (List.mem_of_getElem? hn)
  refine ⟨by omega, Or.inr (Or.inr (Or.inr (Or.inr ⟨s, i, absN n, ha, hs, (r.nt s).trans hp, r.heapAt hn, Or.inr (Or.inr ⟨by decide, by decide, by decide, hF _ ?_⟩)⟩)))⟩
  exact sr_change (f := fun n x => andThen (sideArg "end" (taken (argV l 2))) fun b => andThen (rangeArg "value" 0 255 (taken (argV l 3))) fun k => andThen (boolArg "more" (taken (argV l 4))) fun o => orRefuse (sendAt n.window false (seen b x.2) ⟨k, o⟩) fun d => (.undef, n.with x.1 (seen b d))) r hp hn (arg_pl pl 1) fun k c hk hI h1 h7 => cr_send iv hk hI h1 (arg_pl pl 2) (arg_pl pl 3) (arg_pl pl 4)
theorem door_2 : Door 2 := by
  intro w W l c F r pl h hw hF
  have h : calls0 2 (takenAll l) = some c := h
  unfold calls0 at h
  obtain ⟨hl, h⟩ := taking_get h
  obtain ⟨s, ha, hs, h⟩ := slot_get h
  cases h
  simp only [arg_taken] at hw hF
  have hw := (Bool.and_eq_true _ _ ▸ (show (hasNet w s && fits _) = true from hw)).1
  obtain ⟨_, i, n, hp, hn⟩ := net_get hw
  have iv := r.iv n (List.mem_of_getElem? hn)
  refine ⟨by omega, Or.inr (Or.inr (Or.inr (Or.inr ⟨s, i, absN n, ha, hs, (r.nt s).trans hp, r.heapAt hn, Or.inr (Or.inr ⟨by decide, by decide, by decide, hF _ ?_⟩)⟩)))⟩
  exact sr_change (f := fun n x => andThen (sideArg "end" (taken (argV l 2))) fun b => andThen (rangeArg "value" 0 255 (taken (argV l 3))) fun k => orRefuse (sendAt n.window true (seen b x.2) ⟨k, false⟩) fun d => (.undef, n.with x.1 (seen b d))) r hp hn (arg_pl pl 1) fun k c hk hI h1 h7 => cr_urge iv hk hI h1 (arg_pl pl 2) (arg_pl pl 3)
theorem door_3 : Door 3 := by
  intro w W l c F r pl h hw hF
  have h : calls0 3 (takenAll l) = some c := h
  unfold calls0 at h
  obtain ⟨hl, h⟩ := taking_get h
  obtain ⟨s, ha, hs, h⟩ := slot_get h
  cases h
  simp only [arg_taken] at hw hF
  have hw := (Bool.and_eq_true _ _ ▸ (show (hasNet w s && fits _) = true from hw)).1
  obtain ⟨_, i, n, hp, hn⟩ := net_get hw
  have iv := r.iv n (List.mem_of_getElem? hn)
  refine ⟨by omega, Or.inr (Or.inr (Or.inr (Or.inr ⟨s, i, absN n, ha, hs, (r.nt s).trans hp, r.heapAt hn, Or.inr (Or.inr ⟨by decide, by decide, by decide, hF _ ?_⟩)⟩)))⟩
  exact sr_change (f := fun n x => andThen (sideArg "end" (taken (argV l 2))) fun b => match readAt false (seen b x.2) with | some y => .ok (packetPlain y.1, n.with x.1 (seen b y.2)) | none => .ok (.null, n)) r hp hn (arg_pl pl 1) fun k c hk hI h1 h7 => cr_read false iv hk hI h1 (arg_pl pl 2)
theorem door_4 : Door 4 := by
  intro w W l c F r pl h hw hF
  have h : calls0 4 (takenAll l) = some c := h
  unfold calls0 at h
  obtain ⟨hl, h⟩ := taking_get h
  obtain ⟨s, ha, hs, h⟩ := slot_get h
  cases h
  simp only [arg_taken] at hw hF
  have hw := (Bool.and_eq_true _ _ ▸ (show (hasNet w s && fits _) = true from hw)).1
  obtain ⟨_, i, n, hp, hn⟩ := net_get hw
  have iv := r.iv n (List.mem_of_getElem? hn)
  refine ⟨by omega, Or.inr (Or.inr (Or.inr (Or.inr ⟨s, i, absN n, ha, hs, (r.nt s).trans hp, r.heapAt hn, Or.inr (Or.inr ⟨by decide, by decide, by decide, hF _ ?_⟩)⟩)))⟩
  exact sr_change (f := fun n x => andThen (sideArg "end" (taken (argV l 2))) fun b => match readAt true (seen b x.2) with | some y => .ok (packetPlain y.1, n.with x.1 (seen b y.2)) | none => .ok (.null, n)) r hp hn (arg_pl pl 1) fun k c hk hI h1 h7 => cr_read true iv hk hI h1 (arg_pl pl 2)
theorem door_5 : Door 5 := by
  intro w W l c F r pl h hw hF
  have h : calls0 5 (takenAll l) = some c := h
  unfold calls0 at h
  obtain ⟨hl, h⟩ := taking_get h
  obtain ⟨s, ha, hs, h⟩ := slot_get h
  cases h
  simp only [arg_taken] at hw hF
  have hw := (Bool.and_eq_true _ _ ▸ (show (hasNet w s && fits _) = true from hw)).1
  obtain ⟨_, i, n, hp, hn⟩ := net_get hw
  have iv := r.iv n (List.mem_of_getElem? hn)
  refine ⟨by omega, Or.inr (Or.inr (Or.inr (Or.inr ⟨s, i, absN n, ha, hs, (r.nt s).trans hp, r.heapAt hn, Or.inr (Or.inr ⟨by decide, by decide, by decide, hF _ ?_⟩)⟩)))⟩
  exact sr_change (f := fun n x => andThen (nodeArg 1 (x.2.length - 1) (taken (argV l 2))) fun k => andThen (sideArg "direction" (taken (argV l 3))) fun b => orRefuse (forwardAt n.window false (seen (!b) x.2) (if b then k else x.2.length - k)) fun y => (.undef, n.with x.1 (seen (!b) y))) r hp hn (arg_pl pl 1) fun k c hk hI h1 h7 => cr_fwd false iv hk hI h1 h7 (arg_pl pl 2) (arg_pl pl 3)
theorem door_6 : Door 6 := by
  intro w W l c F r pl h hw hF
  have h : calls0 6 (takenAll l) = some c := h
  unfold calls0 at h
  obtain ⟨hl, h⟩ := taking_get h
  obtain ⟨s, ha, hs, h⟩ := slot_get h
  cases h
  simp only [arg_taken] at hw hF
  have hw := (Bool.and_eq_true _ _ ▸ (show (hasNet w s && fits _) = true from hw)).1
  obtain ⟨_, i, n, hp, hn⟩ := net_get hw
  have iv := r.iv n (List.mem_of_getElem? hn)
  refine ⟨by omega, Or.inr (Or.inr (Or.inr (Or.inr ⟨s, i, absN n, ha, hs, (r.nt s).trans hp, r.heapAt hn, Or.inr (Or.inr ⟨by decide, by decide, by decide, hF _ ?_⟩)⟩)))⟩
  exact sr_change (f := fun n x => andThen (nodeArg 1 (x.2.length - 1) (taken (argV l 2))) fun k => andThen (sideArg "direction" (taken (argV l 3))) fun b => orRefuse (forwardAt n.window true (seen (!b) x.2) (if b then k else x.2.length - k)) fun y => (.undef, n.with x.1 (seen (!b) y))) r hp hn (arg_pl pl 1) fun k c hk hI h1 h7 => cr_fwd true iv hk hI h1 h7 (arg_pl pl 2) (arg_pl pl 3)
theorem door_7 : Door 7 := by
  intro w W l c F r pl h hw hF
  have h : calls0 7 (takenAll l) = some c := h
  unfold calls0 at h
  obtain ⟨hl, h⟩ := taking_get h
  obtain ⟨s, ha, hs, h⟩ := slot_get h
  cases h
  simp only [arg_taken] at hw hF
  have hw := (Bool.and_eq_true _ _ ▸ (show (hasNet w s && fits _) = true from hw)).1
  obtain ⟨_, i, n, hp, hn⟩ := net_get hw
  have iv := r.iv n (List.mem_of_getElem? hn)
  refine ⟨by omega, Or.inr (Or.inr (Or.inr (Or.inr ⟨s, i, absN n, ha, hs, (r.nt s).trans hp, r.heapAt hn, Or.inr (Or.inr ⟨by decide, by decide, by decide, hF _ ?_⟩)⟩)))⟩
  exact sr_change (f := fun n x => andThen (linkArg x.2 (taken (argV l 2))) fun i => andThen (sideArg "direction" (taken (argV l 3))) fun b => match deliverAt (seen (!b) x.2) (if b then i else x.2.length - 1 - i) with | some y => .ok (R7251g.Spec.text ((((if b then (x.2.getD i freshLink).lr else (x.2.getD i freshLink).rl).head?).map itemText).getD ""), n.with x.1 (seen (!b) y)) | none => .ok (.null, n)) r hp hn (arg_pl pl 1) fun k c hk hI h1 h7 => cr_deliver iv hk hI h1 h7 (arg_pl pl 2) (arg_pl pl 3)
theorem door_8 : Door 8 := by
  intro w W l c F r pl h hw hF
  have h : calls0 8 (takenAll l) = some c := h
  unfold calls0 at h
  obtain ⟨hl, h⟩ := taking_get h
  obtain ⟨s, ha, hs, h⟩ := slot_get h
  cases h
  simp only [arg_taken] at hw hF
  have hw := (Bool.and_eq_true _ _ ▸ (show (hasNet w s && fits _) = true from hw)).1
  obtain ⟨_, i, n, hp, hn⟩ := net_get hw
  have iv := r.iv n (List.mem_of_getElem? hn)
  refine ⟨by omega, Or.inr (Or.inr (Or.inr (Or.inr ⟨s, i, absN n, ha, hs, (r.nt s).trans hp, r.heapAt hn, Or.inr (Or.inr ⟨by decide, by decide, by decide, hF _ ?_⟩)⟩)))⟩
  exact sr_change (f := fun n x => andThen (nodeArg 0 x.2.length (taken (argV l 2))) fun k => .ok (.undef, n.with x.1 (resetAt x.2 k))) r hp hn (arg_pl pl 1) fun k c hk hI h1 h7 => cr_reset iv hk hI h7 (arg_pl pl 2)
theorem door_10 : Door 10 := by
  intro w W l c F r pl h hw hF
  have h : calls0 10 (takenAll l) = some c := h
  unfold calls0 at h
  obtain ⟨hl, h⟩ := taking_get h
  obtain ⟨s, ha, hs, h⟩ := slot_get h
  cases h
  simp only [arg_taken] at hw hF
  have hw := (Bool.and_eq_true _ _ ▸ (show (hasNet w s && fits _) = true from hw)).1
  obtain ⟨_, i, n, hp, hn⟩ := net_get hw
  have iv := r.iv n (List.mem_of_getElem? hn)
  refine ⟨by omega, Or.inr (Or.inr (Or.inr (Or.inr ⟨s, i, absN n, ha, hs, (r.nt s).trans hp, r.heapAt hn, Or.inr (Or.inr ⟨by decide, by decide, by decide, hF _ ?_⟩)⟩)))⟩
  exact sr_change (f := fun n x => andThen (rangeArg "limit" 0 1000 (taken (argV l 2))) fun l => .ok (nat (runChain n.window l x.2).1, n.with x.1 (runChain n.window l x.2).2)) r hp hn (arg_pl pl 1) fun k c hk hI h1 h7 => cr_run iv hk hI (arg_pl pl 2)
theorem door_11 : Door 11 := by
  intro w W l c F r pl h hw hF
  have h : calls0 11 (takenAll l) = some c := h
  unfold calls0 at h
  obtain ⟨hl, h⟩ := taking_get h
  obtain ⟨s, ha, hs, h⟩ := slot_get h
  cases h
  simp only [arg_taken] at hw hF
  have hw := (Bool.and_eq_true _ _ ▸ (show (hasNet w s && fits _) = true from hw)).1
  obtain ⟨_, i, n, hp, hn⟩ := net_get hw
  refine ⟨by omega, Or.inr (Or.inr (Or.inr (Or.inr ⟨s, i, absN n, ha, hs, (r.nt s).trans hp, r.heapAt hn, Or.inr (Or.inr ⟨by decide, by decide, by decide, hF _ ?_⟩)⟩)))⟩
  exact sr_on (f := fun n x => andThen (sideArg "end" (taken (argV l 2))) fun b => .ok (logPlain false (terminal x.2 b))) r hp hn (arg_pl pl 1) fun k c hk hI h1 h7 => cs_log false h1 (arg_pl pl 2)
theorem door_12 : Door 12 := by
  intro w W l c F r pl h hw hF
  have h : calls0 12 (takenAll l) = some c := h
  unfold calls0 at h
  obtain ⟨hl, h⟩ := taking_get h
  obtain ⟨s, ha, hs, h⟩ := slot_get h
  cases h
  simp only [arg_taken] at hw hF
  have hw := (Bool.and_eq_true _ _ ▸ (show (hasNet w s && fits _) = true from hw)).1
  obtain ⟨_, i, n, hp, hn⟩ := net_get hw
  refine ⟨by omega, Or.inr (Or.inr (Or.inr (Or.inr ⟨s, i, absN n, ha, hs, (r.nt s).trans hp, r.heapAt hn, Or.inr (Or.inr ⟨by decide, by decide, by decide, hF _ ?_⟩)⟩)))⟩
  exact sr_on (f := fun n x => andThen (sideArg "end" (taken (argV l 2))) fun b => .ok (logPlain true (terminal x.2 b))) r hp hn (arg_pl pl 1) fun k c hk hI h1 h7 => cs_log true h1 (arg_pl pl 2)
theorem door_13 : Door 13 := by
  intro w W l c F r pl h hw hF
  have h : calls0 13 (takenAll l) = some c := h
  unfold calls0 at h
  obtain ⟨hl, h⟩ := taking_get h
  obtain ⟨s, ha, hs, h⟩ := slot_get h
  cases h
  simp only [arg_taken] at hw hF
  have hw := (Bool.and_eq_true _ _ ▸ (show (hasNet w s && fits _) = true from hw)).1
  obtain ⟨_, i, n, hp, hn⟩ := net_get hw
  refine ⟨by omega, Or.inr (Or.inr (Or.inr (Or.inr ⟨s, i, absN n, ha, hs, (r.nt s).trans hp, r.heapAt hn, Or.inr (Or.inr ⟨by decide, by decide, by decide, hF _ ?_⟩)⟩)))⟩
  exact sr_on (f := fun n x => andThen (sideArg "end" (taken (argV l 2))) fun b => .ok (messagesPlain (terminal x.2 b))) r hp hn (arg_pl pl 1) fun k c hk hI h1 h7 => cs_msgs h1 (arg_pl pl 2)
theorem door_14 : Door 14 := by
  intro w W l c F r pl h hw hF
  have h : calls0 14 (takenAll l) = some c := h
  unfold calls0 at h
  obtain ⟨hl, h⟩ := taking_get h
  obtain ⟨s, ha, hs, h⟩ := slot_get h
  cases h
  simp only [arg_taken] at hw hF
  have hw := (Bool.and_eq_true _ _ ▸ (show (hasNet w s && fits _) = true from hw)).1
  obtain ⟨_, i, n, hp, hn⟩ := net_get hw
  refine ⟨by omega, Or.inr (Or.inr (Or.inr (Or.inr ⟨s, i, absN n, ha, hs, (r.nt s).trans hp, r.heapAt hn, Or.inr (Or.inr ⟨by decide, by decide, by decide, hF _ ?_⟩)⟩)))⟩
  exact sr_on (f := fun n x => andThen (linkArg x.2 (taken (argV l 2))) fun i => .ok (linkPlain (x.2.getD i freshLink))) r hp hn (arg_pl pl 1) fun k c hk hI h1 h7 => cs_link hI h1 h7 (arg_pl pl 2)
theorem door_0 : Door 0 := by
  intro w W l c F r pl h hw hF
  have h : calls0 0 (takenAll l) = some c := h
  unfold calls0 at h
  obtain ⟨hl, h⟩ := taking_get h
  obtain ⟨s, ha, hs, h⟩ := slot_get h
  cases h
  simp only [arg_taken] at hw hF
  exact ⟨by omega, Or.inl ⟨rfl, s, ha, hs, hF _ (sr_new r hs (arg_pl pl 1))⟩⟩
theorem door_9 : Door 9 := by
  intro w W l c F r pl h hw hF
  have h : calls0 9 (takenAll l) = some c := h
  unfold calls0 at h
  obtain ⟨hl, h⟩ := taking_get h
  obtain ⟨s, ha, hs, h⟩ := slot_get h
  cases h
  simp only [arg_taken] at hw hF
  have hw := (Bool.and_eq_true _ _ ▸ (show (hasNet w s && fits _) = true from hw)).1
  obtain ⟨_, i, n, hp, hn⟩ := net_get hw
  exact ⟨by omega, Or.inr (Or.inr (Or.inr (Or.inr ⟨s, i, absN n, ha, hs, (r.nt s).trans hp, r.heapAt hn, Or.inl ⟨rfl, hF _ (sr_restart r hp hn (arg_pl pl 1))⟩⟩)))⟩
theorem door_15 : Door 15 := by
  intro w W l c F r pl h hw hF
  have h : calls0 15 (takenAll l) = some c := h
  unfold calls0 at h
  obtain ⟨hl, h⟩ := taking_get h
  obtain ⟨s, ha, hs, h⟩ := slot_get h
  cases h
  obtain ⟨_, i, n, hp, hn⟩ := net_get (show hasNet w s = true from hw)
  exact ⟨by omega, Or.inr (Or.inr (Or.inr (Or.inr ⟨s, i, absN n, ha, hs, (r.nt s).trans hp, r.heapAt hn, Or.inr (Or.inl ⟨rfl, hF _ (sr_state r hp hn)⟩)⟩)))⟩
theorem door_16 : Door 16 := by
  intro w W l c F r pl h hw hF
  have h : calls1 16 (takenAll l) = some c := h
  unfold calls1 at h
  obtain ⟨hl, h⟩ := taking_get h
  obtain ⟨s, ha, hs, h⟩ := slot_get h
  obtain ⟨t, hb, ht, h⟩ := slot_get h
  cases h
  simp only [arg_taken] at hw hF
  have hw := (Bool.and_eq_true _ _ ▸ (show ((isSlot s && hasNet w t) && fits _) = true from hw)).1
  have hw := (Bool.and_eq_true _ _ ▸ hw).2
  obtain ⟨_, i, n, hp, hn⟩ := net_get hw
  exact ⟨by omega, Or.inr (Or.inl ⟨rfl, s, t, i, absN n, ha, hs, hb, ht, (r.nt t).trans hp, r.heapAt hn, hF _ (sr_wnew r hs hp hn (arg_pl pl 2))⟩)⟩
theorem door_17 : Door 17 := by
  intro w W l c F r pl h hw hF
  have h : calls1 17 (takenAll l) = some c := h
  unfold calls1 at h
  obtain ⟨hl, h⟩ := taking_get h
  obtain ⟨s, ha, hs, h⟩ := slot_get h
  cases h
  obtain ⟨_, m, hm⟩ := walk_get (show hasWalk w s = true from hw)
  obtain ⟨n, c, hn, hc⟩ := r.ok s m hm
  exact ⟨by omega, Or.inr (Or.inr (Or.inl ⟨rfl, s, absK m, absN n, absC c, ha, hs, by rw [r.wk s, hm]; rfl, r.heapAt hn, by show (n.circuits.map absC)[m.circuit]? = _; rw [List.getElem?_map, hc]; rfl, hF _ (sr_next r hs hm hn hc)⟩))⟩
theorem door_18 : Door 18 := by
  intro w W l c F r pl h hw hF
  have h : calls1 18 (takenAll l) = some c := h
  unfold calls1 at h
  obtain ⟨hl, h⟩ := taking_get h
  obtain ⟨s, ha, hs, h⟩ := slot_get h
  cases h
  simp only [arg_taken] at hw hF
  have hw := (Bool.and_eq_true _ _ ▸ (show (hasWalk w s && fits _) = true from hw)).1
  obtain ⟨_, m, hm⟩ := walk_get hw
  exact ⟨by omega, Or.inr (Or.inr (Or.inr (Or.inl ⟨rfl, s, absK m, ha, hs, by rw [r.wk s, hm]; rfl, hF _ (sr_ret r hs hm (arg_pl pl 1))⟩)))⟩
theorem call_step {d : Nat} : ∀ {w : R7251g.Spec.World} {W : MW} {l : List RWire.Value} {c : Call} {F : WRes → Prop}, WRel w W → PlMany l → callOf d (takenAll l) = some c → within w c = true → (∀ x, SR w (R7251g.Spec.step w c) x → F x) → l.length ≤ 5 ∧ CallP W d (argV l) F := by
  intro w W l c F r pl h hw hF
  have hd := door_lt h
  match d, hd with
  | 0, _ => exact door_0 r pl h hw hF
  | 1, _ => exact door_1 r pl h hw hF
  | 2, _ => exact door_2 r pl h hw hF
  | 3, _ => exact door_3 r pl h hw hF
  | 4, _ => exact door_4 r pl h hw hF
  | 5, _ => exact door_5 r pl h hw hF
  | 6, _ => exact door_6 r pl h hw hF
  | 7, _ => exact door_7 r pl h hw hF
  | 8, _ => exact door_8 r pl h hw hF
  | 9, _ => exact door_9 r pl h hw hF
  | 10, _ => exact door_10 r pl h hw hF
  | 11, _ => exact door_11 r pl h hw hF
  | 12, _ => exact door_12 r pl h hw hF
  | 13, _ => exact door_13 r pl h hw hF
  | 14, _ => exact door_14 r pl h hw hF
  | 15, _ => exact door_15 r pl h hw hF
  | 16, _ => exact door_16 r pl h hw hF
  | 17, _ => exact door_17 r pl h hw hF
  | 18, _ => exact door_18 r pl h hw hF
  | d + 19, hd => omega
end
end Rl
end
section
set_option Elab.async false
set_option linter.all false
set_option maxRecDepth 100000
set_option maxHeartbeats 4000000
/-! RlP9: a stretch of requests. -/
namespace Rl
open PySem (Str)
def played : R7251g.Spec.World → List (List UInt8) → List (List UInt8)
  | _, [] => []
  | w, b :: r => (Rust.step w b).2 :: played (Rust.step w b).1 r
theorem kinds_pl {l : List RWire.Value} (h : Rust.ofKinds l = true) : PlMany l := by
  unfold Rust.ofKinds at h
  rw [Bool.and_eq_true, Bool.and_eq_true] at h
  exact ⟨h.1.1, h.1.2, h.2⟩
theorem play : ∀ (bss : List (List UInt8)) (w : R7251g.Spec.World) (W : MW) (left : Nat), WRel w W → Rust.goes w left bss = true → (∀ b ∈ bss, b.length ≤ 100000) → PlayP W bss (played w bss)
  | [], _, _, _, _, _, _ => rfl
  | b :: t, w, W, left, r, hg, hl => by
    unfold Rust.goes at hg
    cases ha : Rust.asked b with
    | none => rw [ha] at hg; cases hg
    | some c =>
      rw [ha] at hg
      dsimp only at hg
      rw [Bool.and_eq_true, Bool.and_eq_true, Bool.and_eq_true, Bool.and_eq_true] at hg
      obtain ⟨⟨⟨⟨h1, h2⟩, h3⟩, h4⟩, h5⟩ := hg
      have es : Rust.step w b = ((R7251g.Spec.step w c).1, RWire.writeAnswer (Rust.answerOf (R7251g.Spec.step w c).2)) := by
        unfold Rust.step
        rw [ha]
        dsimp only
        rw [if_pos h1]
      have hw : R7251g.Spec.within w c = true := by
        unfold Rust.canBe at h1
        rw [Bool.and_eq_true] at h1
        exact h1.1
      unfold Rust.asked at ha
      cases hq : RWire.readRequest b with
      | none => rw [hq] at ha; cases ha
      | some q =>
        obtain ⟨d, l⟩ := q
        rw [hq] at ha
        dsimp only at ha
        cases hk : Rust.ofKinds l with
        | false => rw [hk, if_neg Bool.false_ne_true] at ha; cases ha
        | true =>
          rw [hk, if_pos rfl] at ha
          have pl := kinds_pl hk
          have h3 := Nat.le_of_ble_eq_true h3
          rw [es] at h3
          have h3 : (RWire.writeAnswer (Rust.answerOf (R7251g.Spec.step w c).2)).length ≤ 65536 := h3
          have hp : ∀ W', WRel (R7251g.Spec.step w c).1 W' → PlayP W' t (played (R7251g.Spec.step w c).1 t) := fun W' r' => play t _ W' _ r' h5 fun x hx => hl x (List.mem_cons_of_mem _ hx)
          have eP : played w (b :: t) = RWire.writeAnswer (Rust.answerOf (R7251g.Spec.step w c).2) :: played (R7251g.Spec.step w c).1 t := by
            show (Rust.step w b).2 :: played (Rust.step w b).1 t = _
            rw [es]
          rw [eP]
          unfold PlayP
          obtain ⟨l5, call⟩ := call_step (F := fun res => match res with
            | .ok (v, W') => RWire.depth v ≤ 32 ∧ RWire.fine v = true ∧ (RWire.write v).length ≤ 1000000 ∧ ∃ as', RWire.writeAnswer (Rust.answerOf (R7251g.Spec.step w c).2) :: played (R7251g.Spec.step w c).1 t = (0 :: RWire.write v) :: as' ∧ PlayP W' t as'
            | .error (o, z) => okN z = true ∧ z.cps.all (· < 128) = true ∧ (o = 1 ∨ o = 2) ∧ ∃ as', RWire.writeAnswer (Rust.answerOf (R7251g.Spec.step w c).2) :: played (R7251g.Spec.step w c).1 t = (1 :: UInt8.ofNat o.toNat :: (RWire.low 4 z.length ++ oN z)) :: as' ∧ PlayP W t as') r pl ha hw (fun x hx => by
              cases x with
              | ok y =>
                obtain ⟨v, W'⟩ := y
                obtain ⟨p, ep, ev, r'⟩ := hx
                rw [ep] at h2 h3 ⊢
                have h2 : (Rust.narrow p && RWire.writable (Rust.given p)) = true := h2
                rw [Bool.and_eq_true] at h2
                have h2 := h2.2
                unfold RWire.writable at h2
                rw [Bool.and_eq_true, decide_eq_true_iff, ev] at h2
                have h3 : (RWire.write (Rust.given p)).length + 1 ≤ 65536 := h3
                rw [ev] at h3
                refine ⟨h2.2, h2.1, by omega, _, ?_, hp W' r'⟩
                show (0 :: RWire.write (Rust.given p)) :: _ = _
                rw [ev]
              | error y =>
                obtain ⟨o, z⟩ := y
                obtain ⟨e, ee, ⟨k1, k2, k3, k4, k5⟩, ew⟩ := hx
                rw [ee]
                refine ⟨k3, k4, k5, _, ?_, hp W (by rw [show (R7251g.Spec.step w c).1 = w from ew]; exact r)⟩
                show (1 :: UInt8.ofNat (Rust.classOf e.cls) :: RWire.writeText (e.msg.map Rust.octetOf)) :: _ = _
                have k1 : (Rust.classOf e.cls : Int) = o := k1
                rw [k2, ← k1, Int.toNat_natCast]
                congr 3
                unfold RWire.writeText
                have el : (oN z).length = z.length := by
                  unfold oN
                  rw [List.length_map, Array.length_toList]; rfl
                rw [el]; rfl)
          exact ⟨d, l, hl b (List.mem_cons_self ..), hq, pl, l5, call⟩
end Rl
end
section
set_option Elab.async false
set_option linter.all false
set_option maxRecDepth 100000
set_option maxHeartbeats 4000000
/-! RlP10: the numbers handed in, and the answers. -/
namespace Rl
open PySem (Str)
def flatI (rs : List (List Int)) : List Int := rs.flatMap fun r => 0 :: (r.length : Int) :: r
theorem row_get {r x s : List Int} (h : PyFlat.row r = some (x, s)) : r = (x.length : Int) :: (x ++ s) := by
  cases r with
  | nil => cases h
  | cons n r =>
    unfold PyFlat.row at h
    dsimp only at h
    by_cases k : 0 ≤ n ∧ n.toNat ≤ r.length
    · rw [if_pos k] at h
      cases h
      rw [List.take_append_drop, List.length_take]
      congr 1
      omega
    · rw [if_neg k] at h
      cases h
theorem call_get {l t : List Int} {c : List (List Int)} (h : PyFlat.call PyZr20.shape l = some (c, t)) : ∃ x, PyZr20.whole c = [x] ∧ l = 0 :: (x.length : Int) :: (x ++ t) := by
  cases l with
  | nil => cases h
  | cons p r =>
    unfold PyFlat.call PyZr20.shape at h
    dsimp only at h
    by_cases k : p = 0
    · rw [if_pos k] at h
      dsimp only at h
      rw [if_neg (Nat.not_lt_zero _)] at h
      unfold PyFlat.rows at h
      rw [List.drop_zero] at h
      cases e : PyFlat.row r with
      | none => rw [e] at h; cases h
      | some y =>
        obtain ⟨x, s⟩ := y
        rw [e] at h
        have h : some ((p :: r.take 0) :: [x], s) = some (c, t) := h
        cases h
        refine ⟨x, ?_, ?_⟩
        · rw [k]; rfl
        · rw [k, row_get e]
    · rw [if_neg k] at h
      cases h
theorem calls_get : ∀ (f : Nat) (l : List Int) (cs : List (List (List Int))), PyFlat.calls PyZr20.shape f l = some cs → ∃ rs : List (List Int), cs.map PyZr20.whole = rs.map (fun r => [r]) ∧ l = flatI rs
  | f, [], cs, h => by
    have h : some [] = some cs := by cases f <;> exact h
    cases h
    exact ⟨[], rfl, rfl⟩
  | 0, _ :: _, _, h => by cases h
  | f + 1, p :: r, cs, h => by
    unfold PyFlat.calls at h
    cases e : PyFlat.call PyZr20.shape (p :: r) with
    | none => rw [e] at h; cases h
    | some y =>
      obtain ⟨c, t⟩ := y
      rw [e] at h
      dsimp only at h
      cases e2 : PyFlat.calls PyZr20.shape f t with
      | none => rw [e2] at h; cases h
      | some ds =>
        rw [e2] at h
        cases h
        obtain ⟨x, h1, h2⟩ := call_get e
        obtain ⟨rs, h3, h4⟩ := calls_get f t ds e2
        refine ⟨x :: rs, ?_, ?_⟩
        · rw [List.map_cons, List.map_cons, h1, h3]
        · rw [h2, h4]
          show _ = (0 :: (x.length : Int) :: x) ++ flatI rs
          rfl
end Rl
end
section
set_option Elab.async false
set_option linter.all false
set_option maxRecDepth 100000
set_option maxHeartbeats 4000000
/-! RlP11: the plain law. -/
namespace Rl
open PySem PySem.Spec PyProof.Rows L2
open Zr20Neutral (bytesOf numbersOf)
theorem bytes_oV : ∀ {r : List Int}, NeutralIO.bytes r = true → oV (bytesOf r) = r.map V.int := fun {r} h => by
  unfold NeutralIO.bytes at h
  rw [List.all_eq_true] at h
  unfold oV bytesOf
  rw [List.map_map]
  refine List.map_congr_left fun n hn => ?_
  have k := h n hn
  rw [Bool.and_eq_true, decide_eq_true_iff, decide_eq_true_iff] at k
  show V.int ((UInt8.ofNat n.toNat).toNat : Nat) = V.int n
  rw [UInt8.toNat_ofNat', Nat.mod_eq_of_lt (by omega)]
  congr 1
  omega
theorem bytes_len (r : List Int) : (bytesOf r).length = r.length := List.length_map ..
theorem flat_is : ∀ {rs : List (List Int)}, (∀ r ∈ rs, NeutralIO.bytes r = true) → (flatI rs).map V.int = flatV (rs.map bytesOf)
  | [], _ => rfl
  | r :: t, h => by
    have ih := flat_is (rs := t) fun x hx => h x (List.mem_cons_of_mem _ hx)
    show ((0 :: (r.length : Int) :: r) ++ flatI t).map V.int = (V.int 0 :: V.int ((bytesOf r).length : Nat) :: oV (bytesOf r)) ++ flatV (t.map bytesOf)
    rw [List.map_append, ih, bytes_oV (h r (List.mem_cons_self ..)), bytes_len]; rfl
theorem told_is : ∀ (rs : List (List Int)) (w : Rust.St), (PyFlat.told (PyFlat.played (fun s (c : List (List Int)) => Zr20Neutral.step s (c.headD [])) w (rs.map fun r => [r]))).map V.int = outV (played w (rs.map bytesOf))
  | [], _ => rfl
  | r :: t, w => by
    have ih := told_is t (Rust.step w (bytesOf r)).1
    show (((numbersOf (Rust.step w (bytesOf r)).2).length : Int) :: numbersOf (Rust.step w (bytesOf r)).2 ++ PyFlat.told (PyFlat.played (fun s (c : List (List Int)) => Zr20Neutral.step s (c.headD [])) (Rust.step w (bytesOf r)).1 (t.map fun r => [r]))).map V.int
      = (V.int ((Rust.step w (bytesOf r)).2.length : Nat) :: oV (Rust.step w (bytesOf r)).2) ++ outV (played (Rust.step w (bytesOf r)).1 (t.map bytesOf))
    rw [List.map_append, ih]
    congr 1
    unfold numbersOf oV
    rw [List.map_cons, List.length_map, List.map_map]; rfl
theorem flatV_len : ∀ bss : List (List UInt8), (flatV bss).length = 2 * bss.length + Rust.octetsIn bss
  | [] => rfl
  | b :: r => by
    show ((V.int 0 :: V.int (b.length : Nat) :: oV b) ++ flatV r).length = 2 * (r.length + 1) + (b.length + Rust.octetsIn r)
    rw [List.length_append, flatV_len r, List.length_cons, List.length_cons, oV_length]
    omega
theorem plain_law {l : List Int} (h : PyZr20.answers_asked l = true) : ∃ bss as, l.map V.int = flatV bss ∧ (PyZr20.answers l).map V.int = outV as ∧ (flatV bss).length ≤ 10000000 ∧ bss.length ≤ 200 ∧ (outV as).length ≤ 10000000 ∧ PlayP MW.start bss as := by
  unfold PyZr20.answers_asked at h
  cases hc : PyZr20.calls l with
  | none => rw [hc] at h; cases h
  | some cs =>
    rw [hc] at h
    dsimp only at h
    rw [Bool.and_eq_true, Bool.and_eq_true] at h
    obtain ⟨⟨h1, h2⟩, h3⟩ := h
    unfold PyZr20.calls at hc
    cases hd : PyFlat.calls PyZr20.shape l.length l with
    | none => rw [hd] at hc; cases hc
    | some ds =>
      rw [hd] at hc
      have hc : ds.map PyZr20.whole = cs := Option.some.inj hc
      obtain ⟨rs, e1, e2⟩ := calls_get _ _ _ hd
      have ec : cs = rs.map fun r => [r] := hc.symm.trans e1
      have ea : PyZr20.answers l = PyFlat.told (PyFlat.played (fun s (c : List (List Int)) => Zr20Neutral.step s (c.headD [])) Zr20Neutral.start cs) := by
        unfold PyZr20.answers PyZr20.calls
        rw [hd]
        dsimp only
        rw [hc]
      have er : (cs.map fun c => c.headD []) = rs := by
        rw [ec, List.map_map]
        exact (List.map_congr_left fun r _ => rfl).trans (List.map_id rs)
      rw [er] at h2
      unfold Zr20Neutral.asked at h2
      rw [Bool.and_eq_true, Bool.and_eq_true] at h2
      obtain ⟨k1, _, k3⟩ := h2
      have kb : ∀ r ∈ rs, NeutralIO.bytes r = true := fun r hr => List.all_eq_true.mp k1 r hr
      unfold Rust.fits at k3
      rw [Bool.and_eq_true, Bool.and_eq_true, Bool.and_eq_true] at k3
      obtain ⟨⟨⟨f1, f2⟩, f3⟩, f4⟩ := k3
      have f1 : (rs.map bytesOf).length ≤ 200 := Nat.le_of_ble_eq_true f1
      have f3 : Rust.octetsIn (rs.map bytesOf) ≤ 1000000 := Nat.le_of_ble_eq_true f3
      have eo : (PyZr20.answers l).map V.int = outV (played Zr20Neutral.start (rs.map bytesOf)) := by
        rw [ea, ec]
        exact told_is rs _
      have h3 : (PyZr20.answers l).length ≤ 10000000 := of_decide_eq_true h3
      refine ⟨rs.map bytesOf, played Zr20Neutral.start (rs.map bytesOf), ?_, eo, ?_, f1, ?_, ?_⟩
      · rw [e2]; exact flat_is kb
      · rw [flatV_len]; omega
      · rw [← eo, List.length_map]; exact h3
      · exact play _ _ _ _ start_rel f4 fun b hb => Nat.le_trans (Nat.le_of_ble_eq_true (List.all_eq_true.mp f2 b hb)) (by decide)
end Rl
end
section
set_option Elab.async false
set_option linter.all false
set_option maxRecDepth 100000
set_option maxHeartbeats 4000000
/-! RlFin: answers, as the head wants it. -/
open PySem PySem.W PyProof.Rows
theorem Rl.fin_all {P : Program} {w : World} {K : PySem.W.Frag} {mg : Str → Option Value} {fa : Addr} (T : ∃ A : Rl.Adr, Rl.Txt K mg A) (hfa : mg "answers" = some (.ref fa)) :
    ∃ fd : FuncData, (∀ (s : Shared) (us : List Value), us.length = (["calls"] : List Str).length → BindsTo s fd ⟨us, []⟩ ((["calls"] : List Str).zip us)) ∧ ∀ base : Heap, K.In base → base.Ns mainGlobals mg → L2.FnOk P w K mg base L2.CX0 90 fa fd ["calls"] (Rl.spAnswers K) := by
  obtain ⟨A, T⟩ := T
  have e := hfa.symm.trans T.g_answers
  cases e
  obtain ⟨fd, F1, b⟩ := T.F_answers.ex
  refine ⟨fd, ?_, fun base _ _ => (Rl.okF_answers T F1).mono (by decide)⟩
  obtain ⟨⟨oc, od, kV, doc, pm, an, cdv, ct, osl, rfl, l, c⟩, kp⟩ := F1
  exact fun s us hu => match us, hu with | [_], _ => .of_eq rfl
theorem Rl.spec_all {K : PySem.W.Frag} {H : L2.Hp} {c : Addr} {l : List Int} {Q : L2.VK} {E : L2.XK} (hs : L2.SqL K H c (l.map L2.V.int)) (h : PyZr20.answers_asked l = true) (q : ∀ H' p, H' p = some (.lst ((PyZr20.answers l).map L2.V.int)) → Q (.ref p) H') : Rl.spAnswers K [.ref c] H Q E := by
  obtain ⟨bss, as, e1, e2, h1, h2, h3, h4⟩ := Rl.plain_law h
  rw [e1] at hs
  rw [e2] at q
  exact ⟨c, bss, as, rfl, hs, h1, h2, h3, h4, q⟩
end
section
set_option Elab.async false
set_option linter.all false
set_option maxRecDepth 100000
set_option maxHeartbeats 4000000
open PySem PySem.W PyProof.Rows
set_option maxRecDepth 100000 in
set_option maxHeartbeats 0 in
theorem PySem.Challenge.cw_resetline_s01_answers_holds : PySem.Challenge.rw_resetline_s01_answers.Holds := by
  w_on; k_headS; (case hw => exact ⟨[.list (([0, 21, 0, 0, 2, 4, 0, 0, 0, 0, 0, 0, 0, 0, 4, 5, 0, 0, 0, 0, 0, 0, 0] : List Int).map WData.int)], by decide +kernel, by decide +kernel⟩)
  k_fillS
  refine L2.walk_specK (r := PySem.Challenge.rw_resetline_s01_answers) (k := 90) (CX := L2.CX0) (ps := ["calls"]) (sp := Rl.spAnswers) (by decide +kernel) rfl rfl ⟨rfl, by decide, by decide⟩ (fun w h Y => PySem.W.kIn_of Y) ?F ?S (fun _ _ _ _ z => z)
  case F =>
    intro w mg fa h Y KX G hmg
    refine Rl.fin_all ?T hmg
    refine' Rl.txt_mk KX G ?gc_B ?gc_W ?gc_C ?gc_L ?gc_E ?gc_X ?gc_R ?a_codes_of ?l_codes_of ?c_codes_of' ?k_codes_of ?a_integer ?l_integer ?c_integer' ?k_integer ?a_text ?l_text ?c_text' ?k_text ?a_truth ?l_truth ?c_truth' ?k_truth ?a_listed ?l_listed ?c_listed' ?k_listed ?a_integers ?l_integers ?c_integers' ?k_integers ?a_record ?l_record ?c_record' ?k_record ?a_low_first ?l_low_first ?c_low_first' ?k_low_first ?a_octets_of ?l_octets_of ?c_octets_of' ?k_octets_of ?a_R_init ?i_R_init ?l_R_init ?c_R_init' ?k_R_init ?a_R_number ?i_R_number ?l_R_number ?c_R_number' ?k_R_number ?a_R_plain ?i_R_plain ?l_R_plain ?c_R_plain' ?k_R_plain ?a_R_value ?i_R_value ?l_R_value ?c_R_value' ?k_R_value ?a_R_whole ?i_R_whole ?l_R_whole ?c_R_whole' ?k_R_whole ?a_X_init ?i_X_init ?l_X_init ?c_X_init' ?k_X_init ?a_wrong_kind ?l_wrong_kind ?c_wrong_kind' ?k_wrong_kind ?a_out_of_range ?l_out_of_range ?c_out_of_range' ?k_out_of_range ?a_E_init ?i_E_init ?l_E_init ?c_E_init' ?k_E_init ?a_E_clear ?i_E_clear ?l_E_clear ?c_E_clear' ?k_E_clear ?a_E_anew ?i_E_anew ?l_E_anew ?c_E_anew' ?k_E_anew ?a_E_note ?i_E_note ?l_E_note ?c_E_note' ?k_E_note ?a_L_init ?i_L_init ?l_L_init ?c_L_init' ?k_L_init ?a_L_put ?i_L_put ?l_L_put ?c_L_put' ?k_L_put ?a_L_can_send ?i_L_can_send ?l_L_can_send ?c_L_can_send' ?k_L_can_send ?a_L_send ?i_L_send ?l_L_send ?c_L_send' ?k_L_send ?a_L_take ?i_L_take ?l_L_take ?c_L_take' ?k_L_take ?a_L_reset ?i_L_reset ?l_L_reset ?c_L_reset' ?k_L_reset ?a_L_arrive ?i_L_arrive ?l_L_arrive ?c_L_arrive' ?k_L_arrive ?a_C_init ?i_C_init ?l_C_init ?c_C_init' ?k_C_init ?a_C_is_quiet ?i_C_is_quiet ?l_C_is_quiet ?c_C_is_quiet' ?k_C_is_quiet ?a_C_terminal ?i_C_terminal ?l_C_terminal ?c_C_terminal' ?k_C_terminal ?a_C_check_send ?i_C_check_send ?l_C_check_send ?c_C_check_send' ?k_C_check_send ?a_C_send ?i_C_send ?l_C_send ?c_C_send' ?k_C_send ?a_C_read ?i_C_read ?l_C_read ?c_C_read' ?k_C_read ?a_C_links_at ?i_C_links_at ?l_C_links_at ?c_C_links_at' ?k_C_links_at ?a_C_can_forward ?i_C_can_forward ?l_C_can_forward ?c_C_can_forward' ?k_C_can_forward ?a_C_pass_on ?i_C_pass_on ?l_C_pass_on ?c_C_pass_on' ?k_C_pass_on ?a_C_forward ?i_C_forward ?l_C_forward ?c_C_forward' ?k_C_forward ?a_C_deliver ?i_C_deliver ?l_C_deliver ?c_C_deliver' ?k_C_deliver ?a_C_reset ?i_C_reset ?l_C_reset ?c_C_reset' ?k_C_reset ?a_C_step ?i_C_step ?l_C_step ?c_C_step' ?k_C_step ?a_messages_of ?l_messages_of ?c_messages_of' ?k_messages_of ?a_W_init ?i_W_init ?l_W_init ?c_W_init' ?k_W_init ?a_W_take ?i_W_take ?l_W_take ?c_W_take' ?k_W_take ?a_is_integer ?l_is_integer ?c_is_integer' ?k_is_integer ?a_number_of ?l_number_of ?c_number_of' ?k_number_of ?a_member ?l_member ?c_member' ?k_member ?a_side_of ?l_side_of ?c_side_of' ?k_side_of ?a_circuits_of ?l_circuits_of ?c_circuits_of' ?k_circuits_of ?a_told_packet ?l_told_packet ?c_told_packet' ?k_told_packet ?a_told_packets ?l_told_packets ?c_told_packets' ?k_told_packets ?a_told_item ?l_told_item ?c_told_item' ?k_told_item ?a_told_end ?l_told_end ?c_told_end' ?k_told_end ?a_told_link ?l_told_link ?c_told_link' ?k_told_link ?a_told_log ?l_told_log ?c_told_log' ?k_told_log ?a_told_messages ?l_told_messages ?c_told_messages' ?k_told_messages ?a_octet_of ?l_octet_of ?c_octet_of' ?k_octet_of ?a_on_terminal ?l_on_terminal ?c_on_terminal' ?k_on_terminal ?a_on_circuit ?l_on_circuit ?c_on_circuit' ?k_on_circuit ?a_told_step ?l_told_step ?c_told_step' ?k_told_step ?a_on_walk ?l_on_walk ?c_on_walk' ?k_on_walk ?a_B_init ?i_B_init ?l_B_init ?c_B_init' ?k_B_init ?a_B_circuit_of ?i_B_circuit_of ?l_B_circuit_of ?c_B_circuit_of' ?k_B_circuit_of ?a_B_restart ?i_B_restart ?l_B_restart ?c_B_restart' ?k_B_restart ?a_B_told_state ?i_B_told_state ?l_B_told_state ?c_B_told_state' ?k_B_told_state ?a_B_call ?i_B_call ?l_B_call ?c_B_call' ?k_B_call ?a_answered ?l_answered ?c_answered' ?k_answered ?a_answers ?l_answers ?c_answers' ?k_answers ?pg_R ?hd_R ?po_R ?sa_R ?mk_R ?kc_R ?a_R_octets' ?a_R_at' ?xL ?saX ?gaX ?ggX ?tX ?kcX ?eCX ?tCX ?hdX ?iCX ?sCX ?x_order ?x_message ?x_further ?pg_E ?hd_E ?po_E ?sa_E ?mk_E ?kc_E ?a_E_waits' ?a_E_counts' ?a_E_inboxes' ?a_E_resets' ?a_E_sent' ?a_E_got' ?pg_L ?hd_L ?po_L ?sa_L ?mk_L ?kc_L ?a_L_ends' ?a_L_queues' ?pg_C ?hd_C ?po_C ?sa_C ?mk_C ?kc_C ?a_C_window' ?a_C_links' ?pg_W ?hd_W ?po_W ?sa_W ?mk_W ?kc_W ?a_W_circuit' ?a_W_is_over' ?pg_B ?hd_B ?po_B ?sa_B ?mk_B ?kc_B ?a_B_nets' ?a_B_walks' ?v_NOTHING ?w_NOTHING ?v_NULL ?w_NULL ?v_FALSE ?w_FALSE ?v_TRUE ?w_TRUE ?v_INTEGER ?v_TEXT ?v_LIST ?v_RECORD ?v_OCTETS ?v_WORD ?v_HALF ?v_LEFT ?v_RIGHT ?v_DATA ?v_URGENT ?v_CREDITS ?w_CREDITS ?v_RESET ?v_CONFIRM ?v_PACKETS ?w_PACKETS ?v_ORDINARY ?v_FORWARDS ?w_FORWARDS ?v_MOST_ARGUMENTS ?v_MOST_VALUE ?v_MOST_RUN ?v_SIDES ?w_SIDES ?b_len ?b_range ?b_tuple ?b_list ?b_ord ?b_str ?b_all
    (case gc_B => k_is)
    (case gc_W => k_is)
    (case gc_C => k_is)
    (case gc_L => k_is)
    (case gc_E => k_is)
    (case gc_X => k_is)
    (case gc_R => k_is)
    (case a_codes_of => k_is)
    (case l_codes_of => k_is)
    (case c_codes_of' => k_is)
    (case k_codes_of => k_is)
    (case a_integer => k_is)
    (case l_integer => k_is)
    (case c_integer' => k_is)
    (case k_integer => k_is)
    (case a_text => k_is)
    (case l_text => k_is)
    (case c_text' => k_is)
    (case k_text => k_is)
    (case a_truth => k_is)
    (case l_truth => k_is)
    (case c_truth' => k_is)
    (case k_truth => k_is)
    (case a_listed => k_is)
    (case l_listed => k_is)
    (case c_listed' => k_is)
    (case k_listed => k_is)
    (case a_integers => k_is)
    (case l_integers => k_is)
    (case c_integers' => k_is)
    (case k_integers => k_is)
    (case a_record => k_is)
    (case l_record => k_is)
    (case c_record' => k_is)
    (case k_record => k_is)
    (case a_low_first => k_is)
    (case l_low_first => k_is)
    (case c_low_first' => k_is)
    (case k_low_first => k_is)
    (case a_octets_of => k_is)
    (case l_octets_of => k_is)
    (case c_octets_of' => k_is)
    (case k_octets_of => k_is)
    (case a_R_init => k_is)
    (case i_R_init => k_is)
    (case l_R_init => k_is)
    (case c_R_init' => k_is)
    (case k_R_init => k_is)
    (case a_R_number => k_is)
    (case i_R_number => k_is)
    (case l_R_number => k_is)
    (case c_R_number' => k_is)
    (case k_R_number => k_is)
    (case a_R_plain => k_is)
    (case i_R_plain => k_is)
    (case l_R_plain => k_is)
    (case c_R_plain' => k_is)
    (case k_R_plain => k_is)
    (case a_R_value => k_is)
    (case i_R_value => k_is)
    (case l_R_value => k_is)
    (case c_R_value' => k_is)
    (case k_R_value => k_is)
    (case a_R_whole => k_is)
    (case i_R_whole => k_is)
    (case l_R_whole => k_is)
    (case c_R_whole' => k_is)
    (case k_R_whole => k_is)
    (case a_X_init => k_is)
    (case i_X_init => k_is)
    (case l_X_init => k_is)
    (case c_X_init' => k_is)
    (case k_X_init => k_is)
    (case a_wrong_kind => k_is)
    (case l_wrong_kind => k_is)
    (case c_wrong_kind' => k_is)
    (case k_wrong_kind => k_is)
    (case a_out_of_range => k_is)
    (case l_out_of_range => k_is)
    (case c_out_of_range' => k_is)
    (case k_out_of_range => k_is)
    (case a_E_init => k_is)
    (case i_E_init => k_is)
    (case l_E_init => k_is)
    (case c_E_init' => k_is)
    (case k_E_init => k_is)
    (case a_E_clear => k_is)
    (case i_E_clear => k_is)
    (case l_E_clear => k_is)
    (case c_E_clear' => k_is)
    (case k_E_clear => k_is)
    (case a_E_anew => k_is)
    (case i_E_anew => k_is)
    (case l_E_anew => k_is)
    (case c_E_anew' => k_is)
    (case k_E_anew => k_is)
    (case a_E_note => k_is)
    (case i_E_note => k_is)
    (case l_E_note => k_is)
    (case c_E_note' => k_is)
    (case k_E_note => k_is)
    (case a_L_init => k_is)
    (case i_L_init => k_is)
    (case l_L_init => k_is)
    (case c_L_init' => k_is)
    (case k_L_init => k_is)
    (case a_L_put => k_is)
    (case i_L_put => k_is)
    (case l_L_put => k_is)
    (case c_L_put' => k_is)
    (case k_L_put => k_is)
    (case a_L_can_send => k_is)
    (case i_L_can_send => k_is)
    (case l_L_can_send => k_is)
    (case c_L_can_send' => k_is)
    (case k_L_can_send => k_is)
    (case a_L_send => k_is)
    (case i_L_send => k_is)
    (case l_L_send => k_is)
    (case c_L_send' => k_is)
    (case k_L_send => k_is)
    (case a_L_take => k_is)
    (case i_L_take => k_is)
    (case l_L_take => k_is)
    (case c_L_take' => k_is)
    (case k_L_take => k_is)
    (case a_L_reset => k_is)
    (case i_L_reset => k_is)
    (case l_L_reset => k_is)
    (case c_L_reset' => k_is)
    (case k_L_reset => k_is)
    (case a_L_arrive => k_is)
    (case i_L_arrive => k_is)
    (case l_L_arrive => k_is)
    (case c_L_arrive' => k_is)
    (case k_L_arrive => k_is)
    (case a_C_init => k_is)
    (case i_C_init => k_is)
    (case l_C_init => k_is)
    (case c_C_init' => k_is)
    (case k_C_init => k_is)
    (case a_C_is_quiet => k_is)
    (case i_C_is_quiet => k_is)
    (case l_C_is_quiet => k_is)
    (case c_C_is_quiet' => k_is)
    (case k_C_is_quiet => k_is)
    (case a_C_terminal => k_is)
    (case i_C_terminal => k_is)
    (case l_C_terminal => k_is)
    (case c_C_terminal' => k_is)
    (case k_C_terminal => k_is)
    (case a_C_check_send => k_is)
    (case i_C_check_send => k_is)
    (case l_C_check_send => k_is)
    (case c_C_check_send' => k_is)
    (case k_C_check_send => k_is)
    (case a_C_send => k_is)
    (case i_C_send => k_is)
    (case l_C_send => k_is)
    (case c_C_send' => k_is)
    (case k_C_send => k_is)
    (case a_C_read => k_is)
    (case i_C_read => k_is)
    (case l_C_read => k_is)
    (case c_C_read' => k_is)
    (case k_C_read => k_is)
    (case a_C_links_at => k_is)
    (case i_C_links_at => k_is)
    (case l_C_links_at => k_is)
    (case c_C_links_at' => k_is)
    (case k_C_links_at => k_is)
    (case a_C_can_forward => k_is)
    (case i_C_can_forward => k_is)
    (case l_C_can_forward => k_is)
    (case c_C_can_forward' => k_is)
    (case k_C_can_forward => k_is)
    (case a_C_pass_on => k_is)
    (case i_C_pass_on => k_is)
    (case l_C_pass_on => k_is)
    (case c_C_pass_on' => k_is)
    (case k_C_pass_on => k_is)
    (case a_C_forward => k_is)
    (case i_C_forward => k_is)
    (case l_C_forward => k_is)
    (case c_C_forward' => k_is)
    (case k_C_forward => k_is)
    (case a_C_deliver => k_is)
    (case i_C_deliver => k_is)
    (case l_C_deliver => k_is)
    (case c_C_deliver' => k_is)
    (case k_C_deliver => k_is)
    (case a_C_reset => k_is)
    (case i_C_reset => k_is)
    (case l_C_reset => k_is)
    (case c_C_reset' => k_is)
    (case k_C_reset => k_is)
    (case a_C_step => k_is)
    (case i_C_step => k_is)
    (case l_C_step => k_is)
    (case c_C_step' => k_is)
    (case k_C_step => k_is)
    (case a_messages_of => k_is)
    (case l_messages_of => k_is)
    (case c_messages_of' => k_is)
    (case k_messages_of => k_is)
    (case a_W_init => k_is)
    (case i_W_init => k_is)
    (case l_W_init => k_is)
    (case c_W_init' => k_is)
    (case k_W_init => k_is)
    (case a_W_take => k_is)
    (case i_W_take => k_is)
    (case l_W_take => k_is)
    (case c_W_take' => k_is)
    (case k_W_take => k_is)
    (case a_is_integer => k_is)
    (case l_is_integer => k_is)
    (case c_is_integer' => k_is)
    (case k_is_integer => k_is)
    (case a_number_of => k_is)
    (case l_number_of => k_is)
    (case c_number_of' => k_is)
    (case k_number_of => k_is)
    (case a_member => k_is)
    (case l_member => k_is)
    (case c_member' => k_is)
    (case k_member => k_is)
    (case a_side_of => k_is)
    (case l_side_of => k_is)
    (case c_side_of' => k_is)
    (case k_side_of => k_is)
    (case a_circuits_of => k_is)
    (case l_circuits_of => k_is)
    (case c_circuits_of' => k_is)
    (case k_circuits_of => k_is)
    (case a_told_packet => k_is)
    (case l_told_packet => k_is)
    (case c_told_packet' => k_is)
    (case k_told_packet => k_is)
    (case a_told_packets => k_is)
    (case l_told_packets => k_is)
    (case c_told_packets' => k_is)
    (case k_told_packets => k_is)
    (case a_told_item => k_is)
    (case l_told_item => k_is)
    (case c_told_item' => k_is)
    (case k_told_item => k_is)
    (case a_told_end => k_is)
    (case l_told_end => k_is)
    (case c_told_end' => k_is)
    (case k_told_end => k_is)
    (case a_told_link => k_is)
    (case l_told_link => k_is)
    (case c_told_link' => k_is)
    (case k_told_link => k_is)
    (case a_told_log => k_is)
    (case l_told_log => k_is)
    (case c_told_log' => k_is)
    (case k_told_log => k_is)
    (case a_told_messages => k_is)
    (case l_told_messages => k_is)
    (case c_told_messages' => k_is)
    (case k_told_messages => k_is)
    (case a_octet_of => k_is)
    (case l_octet_of => k_is)
    (case c_octet_of' => k_is)
    (case k_octet_of => k_is)
    (case a_on_terminal => k_is)
    (case l_on_terminal => k_is)
    (case c_on_terminal' => k_is)
    (case k_on_terminal => k_is)
    (case a_on_circuit => k_is)
    (case l_on_circuit => k_is)
    (case c_on_circuit' => k_is)
    (case k_on_circuit => k_is)
    (case a_told_step => k_is)
    (case l_told_step => k_is)
    (case c_told_step' => k_is)
    (case k_told_step => k_is)
    (case a_on_walk => k_is)
    (case l_on_walk => k_is)
    (case c_on_walk' => k_is)
    (case k_on_walk => k_is)
    (case a_B_init => k_is)
    (case i_B_init => k_is)
    (case l_B_init => k_is)
    (case c_B_init' => k_is)
    (case k_B_init => k_is)
    (case a_B_circuit_of => k_is)
    (case i_B_circuit_of => k_is)
    (case l_B_circuit_of => k_is)
    (case c_B_circuit_of' => k_is)
    (case k_B_circuit_of => k_is)
    (case a_B_restart => k_is)
    (case i_B_restart => k_is)
    (case l_B_restart => k_is)
    (case c_B_restart' => k_is)
    (case k_B_restart => k_is)
    (case a_B_told_state => k_is)
    (case i_B_told_state => k_is)
    (case l_B_told_state => k_is)
    (case c_B_told_state' => k_is)
    (case k_B_told_state => k_is)
    (case a_B_call => k_is)
    (case i_B_call => k_is)
    (case l_B_call => k_is)
    (case c_B_call' => k_is)
    (case k_B_call => k_is)
    (case a_answered => k_is)
    (case l_answered => k_is)
    (case c_answered' => k_is)
    (case k_answered => k_is)
    (case a_answers => k_is)
    (case l_answers => k_is)
    (case c_answers' => k_is)
    (case k_answers => k_is)
    (case pg_R => k_is)
    (case hd_R => k_is)
    (case po_R => k_is)
    (case sa_R => k_is)
    (case mk_R => k_is)
    (case kc_R => k_is)
    (case a_R_octets' => k_is)
    (case a_R_at' => k_is)
    (case xL => k_is)
    (case saX => k_is)
    (case gaX => k_is)
    (case ggX => k_is)
    (case tX => k_is)
    (case kcX => k_is)
    (case eCX => k_is)
    (case tCX => k_is)
    (case hdX => k_is)
    (case iCX => k_is)
    (case sCX => first | rfl | k_is)
    (case x_order => k_is)
    (case x_message => k_is)
    (case x_further => k_is)
    (case pg_E => k_is)
    (case hd_E => k_is)
    (case po_E => k_is)
    (case sa_E => k_is)
    (case mk_E => k_is)
    (case kc_E => k_is)
    (case a_E_waits' => k_is)
    (case a_E_counts' => k_is)
    (case a_E_inboxes' => k_is)
    (case a_E_resets' => k_is)
    (case a_E_sent' => k_is)
    (case a_E_got' => k_is)
    (case pg_L => k_is)
    (case hd_L => k_is)
    (case po_L => k_is)
    (case sa_L => k_is)
    (case mk_L => k_is)
    (case kc_L => k_is)
    (case a_L_ends' => k_is)
    (case a_L_queues' => k_is)
    (case pg_C => k_is)
    (case hd_C => k_is)
    (case po_C => k_is)
    (case sa_C => k_is)
    (case mk_C => k_is)
    (case kc_C => k_is)
    (case a_C_window' => k_is)
    (case a_C_links' => k_is)
    (case pg_W => k_is)
    (case hd_W => k_is)
    (case po_W => k_is)
    (case sa_W => k_is)
    (case mk_W => k_is)
    (case kc_W => k_is)
    (case a_W_circuit' => k_is)
    (case a_W_is_over' => k_is)
    (case pg_B => k_is)
    (case hd_B => k_is)
    (case po_B => k_is)
    (case sa_B => k_is)
    (case mk_B => k_is)
    (case kc_B => k_is)
    (case a_B_nets' => k_is)
    (case a_B_walks' => k_is)
    (case v_NOTHING => k_is)
    (case w_NOTHING => k_is)
    (case v_NULL => k_is)
    (case w_NULL => k_is)
    (case v_FALSE => k_is)
    (case w_FALSE => k_is)
    (case v_TRUE => k_is)
    (case w_TRUE => k_is)
    (case v_INTEGER => k_is)
    (case v_TEXT => k_is)
    (case v_LIST => k_is)
    (case v_RECORD => k_is)
    (case v_OCTETS => k_is)
    (case v_WORD => k_is)
    (case v_HALF => k_is)
    (case v_LEFT => k_is)
    (case v_RIGHT => k_is)
    (case v_DATA => k_is)
    (case v_URGENT => k_is)
    (case v_CREDITS => k_is)
    (case w_CREDITS => k_is)
    (case v_RESET => k_is)
    (case v_CONFIRM => k_is)
    (case v_PACKETS => k_is)
    (case w_PACKETS => k_is)
    (case v_ORDINARY => k_is)
    (case v_FORWARDS => k_is)
    (case w_FORWARDS => k_is)
    (case v_MOST_ARGUMENTS => k_is)
    (case v_MOST_VALUE => k_is)
    (case v_MOST_RUN => k_is)
    (case v_SIDES => k_is)
    (case w_SIDES => k_is)
    (case b_len => k_is)
    (case b_range => k_is)
    (case b_tuple => k_is)
    (case b_list => k_is)
    (case b_ord => k_is)
    (case b_str => k_is)
    (case b_all => k_is)

  case S =>
    intro K H xs a hO hwi hask hx
    cases hx with
    | cons h1 h2 =>
      cases h2
      cases h1 with
      | lst hs ha =>
        have e := L2.ints_dw a.1 _ ha
        subst e
        have hask : PyZr20.answers_asked a.1 = true := hask
        exact Rl.spec_all hs hask fun H' p hp => .lst (L2.SqL.of hp) (L2.dw_ints _)
end
