import PyProof.Rows.All
import Wide.All
import OpenK.AllK
import Wide.FinOn
import KE.KStateDown
import KE.OsHead
import Open.SpecLaws
import KE.OsGo
import HandS.ForSpec
import HandS.Defaults
import HandS.More
import HandS.IsInst
import HandS.Head0
import HandS.Head1
import HandS.Head2
import HandS.Head3
import HandS.Head4
import HandS.HeadHook1
import HandS.HeadHook2
import HandS.HeadHook3
import HandS.Evl
import HandS.Codes
import HandS.Style
import HandS.TupAny
import HandS.TupMul
import HandS.Conv
import HandS.ExcCtx
import HandS.NoneIn
import HandS.TryOnly
import HandS.ExcInit
import HandS.ExcSuper
import HandS.HotCalls
import HandS.Comp
import HandS.Iter
import HandS.SuiteRaise
import HandS.ExcInitHot
import HandS.ExcField
import HandS.Text
import HandS.WideBits
import HandS.Zip
import KE.KDictItemsList
import PySem.Challenge.RW_scannedlogins_s01_answers
set_option Elab.async false
set_option linter.all false
set_option maxRecDepth 100000
set_option maxHeartbeats 4000000
/-! ## SlTop -/
namespace Sl
open PySem PySem.Spec PyProof.Rows L2
/-! ### the text by places (printed by gen_head.py) -/
def top (i : Nat) : Stmt := PySem.Challenge.pw_scannedlogins_s01_answers.main.body.getD i (.Pass ⟨0, 0, 0, 0⟩)
abbrev s_letter_of : Stmt := top 10
abbrev s_text_of : Stmt := top 11
abbrev s_octets_in : Stmt := top 12
abbrev s_Refused_init : Stmt := inClass (top 29) 0
abbrev s_Record_init : Stmt := inClass (top 31) 0
abbrev s_Record_member : Stmt := inClass (top 31) 1
abbrev s_need_kind : Stmt := top 32
abbrev s_need_range : Stmt := top 33
abbrev s_is_number : Stmt := top 34
abbrev s_is_within : Stmt := top 35
abbrev s_Reader_init : Stmt := inClass (top 36) 0
abbrev s_Reader_take : Stmt := inClass (top 36) 1
abbrev s_Reader_take_number : Stmt := inClass (top 36) 2
abbrev s_Reader_take_text : Stmt := inClass (top 36) 3
abbrev s_Reader_take_plain : Stmt := inClass (top 36) 4
abbrev s_Reader_take_value : Stmt := inClass (top 36) 5
abbrev s_read_request : Stmt := top 37
abbrev s_number_octets : Stmt := top 38
abbrev s_text_octets : Stmt := top 39
abbrev s_octets_of : Stmt := top 40
abbrev s_refusal_octets : Stmt := top 41
abbrev s_Rules_init : Stmt := inClass (top 45) 0
abbrev s_Rules_keying : Stmt := inClass (top 45) 1
abbrev s_Rules_granting : Stmt := inClass (top 45) 2
abbrev s_Rules_exceeds : Stmt := inClass (top 45) 3
abbrev s_Rules_do_pass : Stmt := inClass (top 45) 4
abbrev s_Rules_by_page : Stmt := inClass (top 45) 5
abbrev s_Rules_by_code : Stmt := inClass (top 45) 6
abbrev s_Rules_can_steal : Stmt := inClass (top 45) 7
abbrev s_Rules_can_foist : Stmt := inClass (top 45) 8
abbrev s_Rules_waited : Stmt := inClass (top 45) 9
abbrev s_Rules_typed : Stmt := inClass (top 45) 10
abbrev s_Rules_theft : Stmt := inClass (top 45) 11
abbrev s_Rules_foist : Stmt := inClass (top 45) 12
abbrev s_Rules_longest : Stmt := inClass (top 45) 13
abbrev s_Rules_greatest_life : Stmt := inClass (top 45) 14
abbrev s_Rules_sign_in : Stmt := inClass (top 45) 15
abbrev s_Rules_told : Stmt := inClass (top 45) 16
abbrev s_need_within : Stmt := top 46
abbrev s_need_or_null : Stmt := top 47
abbrev s_read_rules : Stmt := top 48
abbrev s_Login_init : Stmt := inClass (top 53) 0
abbrev s_Login_told : Stmt := inClass (top 53) 1
abbrev s_told_pair : Stmt := top 54
abbrev s_State_init : Stmt := inClass (top 55) 0
abbrev s_State_later : Stmt := inClass (top 55) 1
abbrev s_State_with_login : Stmt := inClass (top 55) 2
abbrev s_State_with_session : Stmt := inClass (top 55) 3
abbrev s_Server_init : Stmt := inClass (top 56) 0
abbrev s_Server_state : Stmt := inClass (top 56) 1
abbrev s_Server_add : Stmt := inClass (top 56) 2
abbrev s_Server_undo : Stmt := inClass (top 56) 3
abbrev s_Server_known_from : Stmt := inClass (top 56) 4
abbrev s_Server_is_seen_by : Stmt := inClass (top 56) 5
abbrev s_Server_is_current : Stmt := inClass (top 56) 6
abbrev s_Server_sees_code : Stmt := inClass (top 56) 7
abbrev s_Server_sees_number : Stmt := inClass (top 56) 8
abbrev s_Server_signed_in : Stmt := inClass (top 56) 9
abbrev s_Server_need_hand : Stmt := inClass (top 56) 10
abbrev s_Server_need_login : Stmt := inClass (top 56) 11
abbrev s_Server_ask : Stmt := inClass (top 56) 12
abbrev s_Server_scan_code : Stmt := inClass (top 56) 13
abbrev s_Server_type_in : Stmt := inClass (top 56) 14
abbrev s_Server_may_collect : Stmt := inClass (top 56) 15
abbrev s_Server_collect : Stmt := inClass (top 56) 16
abbrev s_Server_leave : Stmt := inClass (top 56) 17
abbrev s_Server_tick : Stmt := inClass (top 56) 18
abbrev s_Server_step : Stmt := inClass (top 56) 19
abbrev s_Server_told : Stmt := inClass (top 56) 20
abbrev s_is_step : Stmt := top 57
abbrev s_played : Stmt := top 58
abbrev s_slot_of : Stmt := top 63
abbrev s_Desk_init : Stmt := inClass (top 64) 0
abbrev s_Desk_rules_in : Stmt := inClass (top 64) 1
abbrev s_Desk_server_in : Stmt := inClass (top 64) 2
abbrev s_Desk_call : Stmt := inClass (top 64) 3
abbrev s_about_rules : Stmt := top 65
abbrev s_about_server : Stmt := top 66
abbrev s_answer : Stmt := top 67
abbrev s_answers : Stmt := top 68
def d_letter_of : He.DefD := ⟨("letter_of", none), "letter_of", "letter_of", defArgs s_letter_of, defBody s_letter_of, defScope s_letter_of, [], []⟩
def d_text_of : He.DefD := ⟨("text_of", none), "text_of", "text_of", defArgs s_text_of, defBody s_text_of, defScope s_text_of, [], []⟩
def d_octets_in : He.DefD := ⟨("octets_in", none), "octets_in", "octets_in", defArgs s_octets_in, defBody s_octets_in, defScope s_octets_in, [], []⟩
def d_Refused_init : He.DefD := ⟨("Refused", some "__init__"), "__init__", "Refused.__init__", defArgs s_Refused_init, defBody s_Refused_init, defScope s_Refused_init, [], []⟩
def d_Record_init : He.DefD := ⟨("Record", some "__init__"), "__init__", "Record.__init__", defArgs s_Record_init, defBody s_Record_init, defScope s_Record_init, [], []⟩
def d_Record_member : He.DefD := ⟨("Record", some "member"), "member", "Record.member", defArgs s_Record_member, defBody s_Record_member, defScope s_Record_member, [], []⟩
def d_need_kind : He.DefD := ⟨("need_kind", none), "need_kind", "need_kind", defArgs s_need_kind, defBody s_need_kind, defScope s_need_kind, [], []⟩
def d_need_range : He.DefD := ⟨("need_range", none), "need_range", "need_range", defArgs s_need_range, defBody s_need_range, defScope s_need_range, [], []⟩
def d_is_number : He.DefD := ⟨("is_number", none), "is_number", "is_number", defArgs s_is_number, defBody s_is_number, defScope s_is_number, [], []⟩
def d_is_within : He.DefD := ⟨("is_within", none), "is_within", "is_within", defArgs s_is_within, defBody s_is_within, defScope s_is_within, [], []⟩
def d_Reader_init : He.DefD := ⟨("Reader", some "__init__"), "__init__", "Reader.__init__", defArgs s_Reader_init, defBody s_Reader_init, defScope s_Reader_init, [], []⟩
def d_Reader_take : He.DefD := ⟨("Reader", some "take"), "take", "Reader.take", defArgs s_Reader_take, defBody s_Reader_take, defScope s_Reader_take, [], []⟩
def d_Reader_take_number : He.DefD := ⟨("Reader", some "take_number"), "take_number", "Reader.take_number", defArgs s_Reader_take_number, defBody s_Reader_take_number, defScope s_Reader_take_number, [], []⟩
def d_Reader_take_text : He.DefD := ⟨("Reader", some "take_text"), "take_text", "Reader.take_text", defArgs s_Reader_take_text, defBody s_Reader_take_text, defScope s_Reader_take_text, [], []⟩
def d_Reader_take_plain : He.DefD := ⟨("Reader", some "take_plain"), "take_plain", "Reader.take_plain", defArgs s_Reader_take_plain, defBody s_Reader_take_plain, defScope s_Reader_take_plain, [], []⟩
def d_Reader_take_value : He.DefD := ⟨("Reader", some "take_value"), "take_value", "Reader.take_value", defArgs s_Reader_take_value, defBody s_Reader_take_value, defScope s_Reader_take_value, [], []⟩
def d_read_request : He.DefD := ⟨("read_request", none), "read_request", "read_request", defArgs s_read_request, defBody s_read_request, defScope s_read_request, [], []⟩
def d_number_octets : He.DefD := ⟨("number_octets", none), "number_octets", "number_octets", defArgs s_number_octets, defBody s_number_octets, defScope s_number_octets, [], []⟩
def d_text_octets : He.DefD := ⟨("text_octets", none), "text_octets", "text_octets", defArgs s_text_octets, defBody s_text_octets, defScope s_text_octets, [], []⟩
def d_octets_of : He.DefD := ⟨("octets_of", none), "octets_of", "octets_of", defArgs s_octets_of, defBody s_octets_of, defScope s_octets_of, [], []⟩
def d_refusal_octets : He.DefD := ⟨("refusal_octets", none), "refusal_octets", "refusal_octets", defArgs s_refusal_octets, defBody s_refusal_octets, defScope s_refusal_octets, [], []⟩
def d_Rules_init : He.DefD := ⟨("Rules", some "__init__"), "__init__", "Rules.__init__", defArgs s_Rules_init, defBody s_Rules_init, defScope s_Rules_init, [], []⟩
def d_Rules_keying : He.DefD := ⟨("Rules", some "keying"), "keying", "Rules.keying", defArgs s_Rules_keying, defBody s_Rules_keying, defScope s_Rules_keying, [], []⟩
def d_Rules_granting : He.DefD := ⟨("Rules", some "granting"), "granting", "Rules.granting", defArgs s_Rules_granting, defBody s_Rules_granting, defScope s_Rules_granting, [], []⟩
def d_Rules_exceeds : He.DefD := ⟨("Rules", some "exceeds"), "exceeds", "Rules.exceeds", defArgs s_Rules_exceeds, defBody s_Rules_exceeds, defScope s_Rules_exceeds, [], []⟩
def d_Rules_do_pass : He.DefD := ⟨("Rules", some "do_pass"), "do_pass", "Rules.do_pass", defArgs s_Rules_do_pass, defBody s_Rules_do_pass, defScope s_Rules_do_pass, [], []⟩
def d_Rules_by_page : He.DefD := ⟨("Rules", some "by_page"), "by_page", "Rules.by_page", defArgs s_Rules_by_page, defBody s_Rules_by_page, defScope s_Rules_by_page, [], []⟩
def d_Rules_by_code : He.DefD := ⟨("Rules", some "by_code"), "by_code", "Rules.by_code", defArgs s_Rules_by_code, defBody s_Rules_by_code, defScope s_Rules_by_code, [], []⟩
def d_Rules_can_steal : He.DefD := ⟨("Rules", some "can_steal"), "can_steal", "Rules.can_steal", defArgs s_Rules_can_steal, defBody s_Rules_can_steal, defScope s_Rules_can_steal, [], []⟩
def d_Rules_can_foist : He.DefD := ⟨("Rules", some "can_foist"), "can_foist", "Rules.can_foist", defArgs s_Rules_can_foist, defBody s_Rules_can_foist, defScope s_Rules_can_foist, [], []⟩
def d_Rules_waited : He.DefD := ⟨("Rules", some "waited"), "waited", "Rules.waited", defArgs s_Rules_waited, defBody s_Rules_waited, defScope s_Rules_waited, [], []⟩
def d_Rules_typed : He.DefD := ⟨("Rules", some "typed"), "typed", "Rules.typed", defArgs s_Rules_typed, defBody s_Rules_typed, defScope s_Rules_typed, [], []⟩
def d_Rules_theft : He.DefD := ⟨("Rules", some "theft"), "theft", "Rules.theft", defArgs s_Rules_theft, defBody s_Rules_theft, defScope s_Rules_theft, [], []⟩
def d_Rules_foist : He.DefD := ⟨("Rules", some "foist"), "foist", "Rules.foist", defArgs s_Rules_foist, defBody s_Rules_foist, defScope s_Rules_foist, [], []⟩
def d_Rules_longest : He.DefD := ⟨("Rules", some "longest"), "longest", "Rules.longest", defArgs s_Rules_longest, defBody s_Rules_longest, defScope s_Rules_longest, [], []⟩
def d_Rules_greatest_life : He.DefD := ⟨("Rules", some "greatest_life"), "greatest_life", "Rules.greatest_life", defArgs s_Rules_greatest_life, defBody s_Rules_greatest_life, defScope s_Rules_greatest_life, [], []⟩
def d_Rules_sign_in : He.DefD := ⟨("Rules", some "sign_in"), "sign_in", "Rules.sign_in", defArgs s_Rules_sign_in, defBody s_Rules_sign_in, defScope s_Rules_sign_in, [], []⟩
def d_Rules_told : He.DefD := ⟨("Rules", some "told"), "told", "Rules.told", defArgs s_Rules_told, defBody s_Rules_told, defScope s_Rules_told, [], []⟩
def d_need_within : He.DefD := ⟨("need_within", none), "need_within", "need_within", defArgs s_need_within, defBody s_need_within, defScope s_need_within, [], []⟩
def d_need_or_null : He.DefD := ⟨("need_or_null", none), "need_or_null", "need_or_null", defArgs s_need_or_null, defBody s_need_or_null, defScope s_need_or_null, [], []⟩
def d_read_rules : He.DefD := ⟨("read_rules", none), "read_rules", "read_rules", defArgs s_read_rules, defBody s_read_rules, defScope s_read_rules, [], []⟩
def d_Login_init : He.DefD := ⟨("Login", some "__init__"), "__init__", "Login.__init__", defArgs s_Login_init, defBody s_Login_init, defScope s_Login_init, [], []⟩
def d_Login_told : He.DefD := ⟨("Login", some "told"), "told", "Login.told", defArgs s_Login_told, defBody s_Login_told, defScope s_Login_told, [], []⟩
def d_told_pair : He.DefD := ⟨("told_pair", none), "told_pair", "told_pair", defArgs s_told_pair, defBody s_told_pair, defScope s_told_pair, [], []⟩
def d_State_init : He.DefD := ⟨("State", some "__init__"), "__init__", "State.__init__", defArgs s_State_init, defBody s_State_init, defScope s_State_init, [], []⟩
def d_State_later : He.DefD := ⟨("State", some "later"), "later", "State.later", defArgs s_State_later, defBody s_State_later, defScope s_State_later, [], []⟩
def d_State_with_login : He.DefD := ⟨("State", some "with_login"), "with_login", "State.with_login", defArgs s_State_with_login, defBody s_State_with_login, defScope s_State_with_login, [], []⟩
def d_State_with_session : He.DefD := ⟨("State", some "with_session"), "with_session", "State.with_session", defArgs s_State_with_session, defBody s_State_with_session, defScope s_State_with_session, [], []⟩
def d_Server_init : He.DefD := ⟨("Server", some "__init__"), "__init__", "Server.__init__", defArgs s_Server_init, defBody s_Server_init, defScope s_Server_init, [], []⟩
def d_Server_state : He.DefD := ⟨("Server", some "state"), "state", "Server.state", defArgs s_Server_state, defBody s_Server_state, defScope s_Server_state, [], []⟩
def d_Server_add : He.DefD := ⟨("Server", some "add"), "add", "Server.add", defArgs s_Server_add, defBody s_Server_add, defScope s_Server_add, [], []⟩
def d_Server_undo : He.DefD := ⟨("Server", some "undo"), "undo", "Server.undo", defArgs s_Server_undo, defBody s_Server_undo, defScope s_Server_undo, [], []⟩
def d_Server_known_from : He.DefD := ⟨("Server", some "known_from"), "known_from", "Server.known_from", defArgs s_Server_known_from, defBody s_Server_known_from, defScope s_Server_known_from, [], []⟩
def d_Server_is_seen_by : He.DefD := ⟨("Server", some "is_seen_by"), "is_seen_by", "Server.is_seen_by", defArgs s_Server_is_seen_by, defBody s_Server_is_seen_by, defScope s_Server_is_seen_by, [], []⟩
def d_Server_is_current : He.DefD := ⟨("Server", some "is_current"), "is_current", "Server.is_current", defArgs s_Server_is_current, defBody s_Server_is_current, defScope s_Server_is_current, [], []⟩
def d_Server_sees_code : He.DefD := ⟨("Server", some "sees_code"), "sees_code", "Server.sees_code", defArgs s_Server_sees_code, defBody s_Server_sees_code, defScope s_Server_sees_code, [], []⟩
def d_Server_sees_number : He.DefD := ⟨("Server", some "sees_number"), "sees_number", "Server.sees_number", defArgs s_Server_sees_number, defBody s_Server_sees_number, defScope s_Server_sees_number, [], []⟩
def d_Server_signed_in : He.DefD := ⟨("Server", some "signed_in"), "signed_in", "Server.signed_in", defArgs s_Server_signed_in, defBody s_Server_signed_in, defScope s_Server_signed_in, [], []⟩
def d_Server_need_hand : He.DefD := ⟨("Server", some "need_hand"), "need_hand", "Server.need_hand", defArgs s_Server_need_hand, defBody s_Server_need_hand, defScope s_Server_need_hand, [], []⟩
def d_Server_need_login : He.DefD := ⟨("Server", some "need_login"), "need_login", "Server.need_login", defArgs s_Server_need_login, defBody s_Server_need_login, defScope s_Server_need_login, [], []⟩
def d_Server_ask : He.DefD := ⟨("Server", some "ask"), "ask", "Server.ask", defArgs s_Server_ask, defBody s_Server_ask, defScope s_Server_ask, [], []⟩
def d_Server_scan_code : He.DefD := ⟨("Server", some "scan_code"), "scan_code", "Server.scan_code", defArgs s_Server_scan_code, defBody s_Server_scan_code, defScope s_Server_scan_code, [], []⟩
def d_Server_type_in : He.DefD := ⟨("Server", some "type_in"), "type_in", "Server.type_in", defArgs s_Server_type_in, defBody s_Server_type_in, defScope s_Server_type_in, [], []⟩
def d_Server_may_collect : He.DefD := ⟨("Server", some "may_collect"), "may_collect", "Server.may_collect", defArgs s_Server_may_collect, defBody s_Server_may_collect, defScope s_Server_may_collect, [], []⟩
def d_Server_collect : He.DefD := ⟨("Server", some "collect"), "collect", "Server.collect", defArgs s_Server_collect, defBody s_Server_collect, defScope s_Server_collect, [], []⟩
def d_Server_leave : He.DefD := ⟨("Server", some "leave"), "leave", "Server.leave", defArgs s_Server_leave, defBody s_Server_leave, defScope s_Server_leave, [], []⟩
def d_Server_tick : He.DefD := ⟨("Server", some "tick"), "tick", "Server.tick", defArgs s_Server_tick, defBody s_Server_tick, defScope s_Server_tick, [], []⟩
def d_Server_step : He.DefD := ⟨("Server", some "step"), "step", "Server.step", defArgs s_Server_step, defBody s_Server_step, defScope s_Server_step, [], []⟩
def d_Server_told : He.DefD := ⟨("Server", some "told"), "told", "Server.told", defArgs s_Server_told, defBody s_Server_told, defScope s_Server_told, [], []⟩
def d_is_step : He.DefD := ⟨("is_step", none), "is_step", "is_step", defArgs s_is_step, defBody s_is_step, defScope s_is_step, [], []⟩
def d_played : He.DefD := ⟨("played", none), "played", "played", defArgs s_played, defBody s_played, defScope s_played, [], []⟩
def d_slot_of : He.DefD := ⟨("slot_of", none), "slot_of", "slot_of", defArgs s_slot_of, defBody s_slot_of, defScope s_slot_of, [], []⟩
def d_Desk_init : He.DefD := ⟨("Desk", some "__init__"), "__init__", "Desk.__init__", defArgs s_Desk_init, defBody s_Desk_init, defScope s_Desk_init, [], []⟩
def d_Desk_rules_in : He.DefD := ⟨("Desk", some "rules_in"), "rules_in", "Desk.rules_in", defArgs s_Desk_rules_in, defBody s_Desk_rules_in, defScope s_Desk_rules_in, [], []⟩
def d_Desk_server_in : He.DefD := ⟨("Desk", some "server_in"), "server_in", "Desk.server_in", defArgs s_Desk_server_in, defBody s_Desk_server_in, defScope s_Desk_server_in, [], []⟩
def d_Desk_call : He.DefD := ⟨("Desk", some "call"), "call", "Desk.call", defArgs s_Desk_call, defBody s_Desk_call, defScope s_Desk_call, [], []⟩
def d_about_rules : He.DefD := ⟨("about_rules", none), "about_rules", "about_rules", defArgs s_about_rules, defBody s_about_rules, defScope s_about_rules, [], []⟩
def d_about_server : He.DefD := ⟨("about_server", none), "about_server", "about_server", defArgs s_about_server, defBody s_about_server, defScope s_about_server, [], []⟩
def d_answer : He.DefD := ⟨("answer", none), "answer", "answer", defArgs s_answer, defBody s_answer, defScope s_answer, [], []⟩
def d_answers : He.DefD := ⟨("answers", none), "answers", "answers", defArgs s_answers, defBody s_answers, defScope s_answers, [], []⟩
def fn : List He.DefD := [d_letter_of, d_text_of, d_octets_in, d_Refused_init, d_Record_init, d_Record_member, d_need_kind, d_need_range, d_is_number, d_is_within, d_Reader_init, d_Reader_take, d_Reader_take_number, d_Reader_take_text, d_Reader_take_plain, d_Reader_take_value, d_read_request, d_number_octets, d_text_octets, d_octets_of, d_refusal_octets, d_Rules_init, d_Rules_keying, d_Rules_granting, d_Rules_exceeds, d_Rules_do_pass, d_Rules_by_page, d_Rules_by_code, d_Rules_can_steal, d_Rules_can_foist, d_Rules_waited, d_Rules_typed, d_Rules_theft, d_Rules_foist, d_Rules_longest, d_Rules_greatest_life, d_Rules_sign_in, d_Rules_told, d_need_within, d_need_or_null, d_read_rules, d_Login_init, d_Login_told, d_told_pair, d_State_init, d_State_later, d_State_with_login, d_State_with_session, d_Server_init, d_Server_state, d_Server_add, d_Server_undo, d_Server_known_from, d_Server_is_seen_by, d_Server_is_current, d_Server_sees_code, d_Server_sees_number, d_Server_signed_in, d_Server_need_hand, d_Server_need_login, d_Server_ask, d_Server_scan_code, d_Server_type_in, d_Server_may_collect, d_Server_collect, d_Server_leave, d_Server_tick, d_Server_step, d_Server_told, d_is_step, d_played, d_slot_of, d_Desk_init, d_Desk_rules_in, d_Desk_server_in, d_Desk_call, d_about_rules, d_about_server, d_answer, d_answers]
def fa0 : List He.Fa := [.glo "letter_of", .keep "letter_of", .glo "text_of", .keep "text_of", .glo "octets_in", .keep "octets_in", .glo "need_kind", .keep "need_kind", .glo "need_range", .keep "need_range", .glo "is_number", .keep "is_number", .glo "is_within", .keep "is_within", .glo "read_request", .keep "read_request", .glo "number_octets", .keep "number_octets", .glo "text_octets", .keep "text_octets", .glo "octets_of", .keep "octets_of", .glo "refusal_octets", .keep "refusal_octets", .glo "need_within", .keep "need_within", .glo "need_or_null", .keep "need_or_null", .glo "read_rules", .keep "read_rules"]
def fa1 : List He.Fa := [.glo "told_pair", .keep "told_pair", .glo "is_step", .keep "is_step", .glo "played", .keep "played", .glo "slot_of", .keep "slot_of", .glo "about_rules", .keep "about_rules", .glo "about_server", .keep "about_server", .glo "answer", .keep "answer", .glo "answers", .keep "answers", .glo "Malformed", .glo "Refused", .glo "Nothing", .cls "Nothing", .keep "Nothing", .glo "Record", .cls "Record", .keep "Record", .noat "Record" "members", .mkr "Record", .meth "Record" "member", .glo "Reader", .cls "Reader", .keep "Reader"]
def fa2 : List He.Fa := [.noat "Reader" "octets", .noat "Reader" "at", .mkr "Reader", .meth "Reader" "take", .meth "Reader" "take_number", .meth "Reader" "take_text", .meth "Reader" "take_plain", .meth "Reader" "take_value", .glo "Rules", .cls "Rules", .keep "Rules", .noat "Rules" "owners", .noat "Rules" "delay", .noat "Rules" "life", .noat "Rules" "number", .noat "Rules" "grant", .noat "Rules" "session", .noat "Rules" "bound", .noat "Rules" "near", .noat "Rules" "hello", .noat "Rules" "once", .mkr "Rules", .meth "Rules" "keying", .meth "Rules" "granting", .meth "Rules" "exceeds", .meth "Rules" "do_pass", .meth "Rules" "by_page", .meth "Rules" "by_code", .meth "Rules" "can_steal", .meth "Rules" "can_foist"]
def fa3 : List He.Fa := [.meth "Rules" "waited", .meth "Rules" "typed", .meth "Rules" "theft", .meth "Rules" "foist", .meth "Rules" "longest", .meth "Rules" "greatest_life", .meth "Rules" "sign_in", .meth "Rules" "told", .glo "Login", .cls "Login", .keep "Login", .noat "Login" "browser", .noat "Login" "made", .noat "Login" "scan", .noat "Login" "given", .noat "Login" "is_taken", .mkr "Login", .meth "Login" "told", .glo "State", .cls "State", .keep "State", .noat "State" "now", .noat "State" "logins", .noat "State" "sessions", .mkr "State", .meth "State" "later", .meth "State" "with_login", .meth "State" "with_session", .glo "Server", .cls "Server"]
def fa4 : List He.Fa := [.keep "Server", .noat "Server" "rules", .noat "Server" "states", .mkr "Server", .meth "Server" "state", .meth "Server" "add", .meth "Server" "undo", .meth "Server" "known_from", .meth "Server" "is_seen_by", .meth "Server" "is_current", .meth "Server" "sees_code", .meth "Server" "sees_number", .meth "Server" "signed_in", .meth "Server" "need_hand", .meth "Server" "need_login", .meth "Server" "ask", .meth "Server" "scan_code", .meth "Server" "type_in", .meth "Server" "may_collect", .meth "Server" "collect", .meth "Server" "leave", .meth "Server" "tick", .meth "Server" "step", .meth "Server" "told", .glo "Desk", .cls "Desk", .keep "Desk", .noat "Desk" "rules", .noat "Desk" "servers", .mkr "Desk"]
def fa5 : List He.Fa := [.meth "Desk" "rules_in", .meth "Desk" "server_in", .meth "Desk" "call", .int "LINE_END" 10, .int "FIRST" 32, .int "LAST" 126, .int "PERCENT" 37, .int "MOST_NEST" 32, .int "MOST_NUMBER" 9007199254740991, .int "SMALL" 9223372036854775808, .int "WIDE" 18446744073709551616, .int "NOTHING" 0, .int "NULL" 1, .int "FALSE" 2, .int "TRUE" 3, .int "NUMBER" 4, .int "TEXT" 6, .int "LIST" 7, .int "RECORD" 8, .int "WRONG_KIND" 1, .int "OUT_OF_RANGE" 2, .int "MOST_TICKS_rules" 50, .int "MOST_STEPS" 300, .int "MOST_TICKS_servers" 100, .int "SLOTS" 4, .str "TABLE" " !\"#$|&'()*+,-./0123456789:;<=>?@ABCDEFGHIJKLMNOPQRSTUVWXYZ[\\]^_ abcdefghijklmnopqrstuvwxyz{ }~", .str "MARK" "`", .str "BASE" "0123456789abcdef", .str "PERCENT_LETTER" "|", .glo "NOT_PLAIN"]
def fa6 : List He.Fa := [.glo "HABITS", .glo "STEPS", .glo "MANY", .glo "SIZES", .free "len", .free "isinstance", .free "int", .free "bool", .free "str", .free "list", .free "range", .free "enumerate", .free "zip", .free "max", .free "ord", .free "Exception"]
def fa : List He.Fa := fa0 ++ fa1 ++ fa2 ++ fa3 ++ fa4 ++ fa5 ++ fa6
def names0 : List PySem.Str := ["TABLE", "MARK", "BASE", "LINE_END", "FIRST", "LAST", "NOT_PLAIN", "PERCENT", "PERCENT_LETTER", "letter_of", "text_of", "octets_in", "MOST_NEST", "MOST_NUMBER", "SMALL", "WIDE", "NOTHING", "NULL", "FALSE", "TRUE", "NUMBER", "TEXT", "LIST", "RECORD", "WRONG_KIND", "OUT_OF_RANGE", "Malformed", "Refused", "Nothing", "Record"]
def names1 : List PySem.Str := ["need_kind", "need_range", "is_number", "is_within", "Reader", "read_request", "number_octets", "text_octets", "octets_of", "refusal_octets", "HABITS", "MOST_TICKS_rules", "Rules", "need_within", "need_or_null", "read_rules", "MOST_STEPS", "MOST_TICKS_servers", "SIZES", "Login", "told_pair", "State", "Server", "is_step", "played", "SLOTS", "STEPS", "MANY", "slot_of", "Desk"]
def names2 : List PySem.Str := ["about_rules", "about_server", "answer"]
def names : List PySem.Str := names0 ++ names1 ++ names2
/-- the place of the asked def -/
abbrev qv : Program := PySem.W.view PySem.Challenge.rw_scannedlogins_s01_answers.prog [68]
/-! ### what the head is looked at for, besides the plain facts -/
/-- the parts of the heap that the facts speak of: the module's names, the classes' dicts, the defs, their code -/
def nsOf (o : Obj) : List Addr := match o.data with
  | .cls cd => [cd.ns]
  | _ => []
def codeRefs (o : Obj) : List Addr := match o.data with
  | .func fd => He.refV fd.code
  | _ => []
def through (g : Addr → Option Obj) (f : Obj → List Addr) (as : List Addr) : List Addr := as.flatMap fun a => match g a with
  | some o => f o
  | none => []
def partsOf (g : Addr → Option Obj) : List Addr :=
  let gl := through g He.refsO [mainGlobals]
  let ns := through g nsOf gl
  let ms := through g He.refsO ns
  mainGlobals :: (gl ++ (ns ++ (ms ++ through g codeRefs (gl ++ ms))))
abbrev exBase : List Value := [.type "Exception", .type "BaseException", .type "object"]
def excOwnB (K : PySem.W.Frag) (C : Addr) : Bool := match K.lookup C with
  | some ⟨.type t, _, .cls cd, sl⟩ => decide (t = "type") && (decide (cd.mro = .ref C :: exBase) && (cd.hasDict && (!cd.hasDel && (match sl.toList with
    | [_, _, _, _, some (.builtin n), _] => decide (n = "Exception.__new__")
    | _ => false))))
  | _ => false
def kinds : List String := ["int", "bool", "str", "list"]
def isoB (K : PySem.W.Frag) (t c : Value) (b : Bool) : Bool := decide (PySem.W.kitOne K t c = some b)
def kin (K : PySem.W.Frag) (x : Str) : Bool := He.eqO (PySem.W.findIn K (.ref (He.ga K x)) "__class__") (some (some (.builtin "object.__class__"))) &&
  (He.eqO (PySem.W.specialIn K (.builtin "object.__class__") "__get__") (some (some (.builtin "getset_descriptor.__get__"))) &&
  (decide (PySem.W.takesIn K (.builtin "object.__class__") = some true) && decide (PySem.W.mroIn K (He.ga K x) (.type "object") = some true)))
def more (K : PySem.W.Frag) : Bool :=
  (excOwnB K (He.ga K "Refused") && (decide (PySem.W.subIn K (.ref (He.ga K "Refused")) (.type "BaseException") = some true) && (decide (PySem.W.typeIn K (.ref (He.ga K "Refused")) = some (.type "type")) &&
  (PySem.W.keepIn K (.ref (He.ga K "Refused")) && (PySem.W.hasDictIn K (He.ga K "Refused") && (PySem.W.isClsIn K (He.ga K "Refused") && (decide (PySem.W.exmOne K (.ref (He.ga K "Refused")) (.ref (He.ga K "Refused")) = some true) &&
  (He.eqO (PySem.W.findIn K (.ref (He.ga K "Refused")) "__setattr__") (some (some (.builtin "object.__setattr__"))) && (He.eqO (PySem.W.findIn K (.ref (He.ga K "Refused")) "__getattribute__") (some (some (.builtin "BaseException.__getattribute__"))) &&
  (He.eqO (PySem.W.findIn K (.ref (He.ga K "Refused")) "__getattr__") (some none) && (He.eqO (PySem.W.findIn K (.ref (He.ga K "Refused")) "manner") (some none) && (He.eqO (PySem.W.findIn K (.ref (He.ga K "Refused")) "message") (some none) &&
  (He.eqO (PySem.W.findIn K (.ref (He.ga K "Refused")) "__init__") (some (some (.ref (He.ma K (He.ga K "Refused") "__init__")))) && decide (PySem.W.typeIn K (.ref (He.ma K (He.ga K "Refused") "__init__")) = some (.type "function"))))))))))))))) &&
  ((PySem.W.makesIn K (He.ga K "Nothing") && He.eqO (PySem.W.findIn K (.ref (He.ga K "Nothing")) "__init__") (some (some (.builtin "object.__init__")))) &&
  ((["Nothing", "Record"].all fun x => kinds.all fun t => isoB K (.ref (He.ga K x)) (.type t) false) &&
  ((["int", "bool", "str", "list", "NoneType"].all fun t => isoB K (.type t) (.ref (He.ga K "Record")) false) &&
  (isoB K (.ref (He.ga K "Nothing")) (.ref (He.ga K "Record")) false && (isoB K (.ref (He.ga K "Record")) (.ref (He.ga K "Record")) true &&
  (He.tupB K "NOT_PLAIN" [.int 96, .int 124] && (He.tupB K "HABITS" [.str "bound", .str "near", .str "hello", .str "once"] && (He.tupB K "STEPS" [.str "ask", .str "scan", .str "type", .str "collect", .str "leave", .str "tick"] &&
  (He.tupB K "MANY" [.int 2, .int 1, .int 1, .int 1, .int 1, .int 1, .int 4, .int 2, .int 3, .int 2, .int 3, .int 3, .int 3, .int 2, .int 2, .int 1, .int 1, .int 2, .int 2, .int 2] &&
  (He.valsB K (He.ga K "SIZES") [("ask", .int 1), ("scan", .int 2), ("type", .int 2), ("collect", .int 2), ("leave", .int 1), ("tick", .int 1)] && (["Nothing", "Record"].all fun x => kin K x)))))))))))
/-! ### the Hook -/
abbrev AlS : Type := (He.AlD × Bool) × Option (List (Option (Str × Int)))
def obsS (K : PySem.W.Frag) : AlS := ((He.obsD fa fn K, more K), He.dicW K (He.ga K "SIZES"))
def steps6 : List Str := ["ask", "scan", "type", "collect", "leave", "tick"]
def valS (w : World) : AlS := ((He.valD fn, true), some (He.keysIn w.params steps6))
def obsSG (g : Addr → Option Obj) : AlS := obsS (He.frG g (partsOf g))
def hookS : PySem.W.Hook where
  α := AlS
  obs := fun s => obsSG s.heap.get?
  val := fun w => valS w
  says := fun w h => ∃ K : PySem.W.Frag, K.In h ∧ obsS K = valS w
  of := fun _ _ e => ⟨_, He.frG_in, e⟩
  keeps := fun _ _ _ ⟨K, hK, c⟩ k => ⟨K, PySem.W.Frag.In.keeps hK k, c⟩
abbrev R : PySem.W.OpenSpec := PySem.Challenge.rw_scannedlogins_s01_answers
def ob (s : PySem.W.SharedT) : AlS := obsSG (HandSHeadRun.getT s)
theorem ob_eq (s : PySem.W.SharedT) : ob s = hookS.obs s.abs := by
  have e : HandSHeadRun.getT s = s.abs.heap.get? := funext fun a => HandSHeadRun.getT_eq s a
  unfold ob
  rw [e] <;> rfl
end Sl
/-! ## SlRunT -/
namespace Sl
open PySem PySem.Spec PyProof.Rows L2
set_option maxHeartbeats 0 in
theorem run_no (w : World) (os : OsState) : (fun w => HandSHeadRun.RunEqS R qv hookS ob 9000 names w) (w.withFollow "special-get-raises" false) := by
  intro os
  kernel_rfl
set_option maxHeartbeats 0 in
theorem run_yes (w : World) : (fun w => HandSHeadRun.RunEqS R qv hookS ob 9000 names w) (w.withFollow "special-get-raises" true) := by
  intro os
  kernel_rfl
theorem run (w : World) : HandSHeadRun.RunEqS R qv hookS ob 9000 names w :=
  PySem.W.byRow2 "special-get-raises" (P := fun w => HandSHeadRun.RunEqS R qv hookS ob 9000 names w) (fun w => run_no w default) run_yes w
end Sl
/-! ## SlTx -/
namespace Sl
open PySem PySem.Spec PyProof.Rows L2
structure Tx (w : World) (K : PySem.W.Frag) (mg : Str → Option Value) : Prop where
  says : obsS K = valS w
  ex : ∃ h : Heap, K.In h ∧ h.Ns mainGlobals mg
section
variable {w : World} {K : PySem.W.Frag} {mg : Str → Option Value}
theorem Tx.sd (T : Tx w K mg) : He.SaysD fa fn K := congrArg (fun z : AlS => z.1.1) T.says
theorem Tx.mo (T : Tx w K mg) : more K = true := congrArg (fun z : AlS => z.1.2) T.says
theorem Tx.sz (T : Tx w K mg) : ∃ es n, KDict K w (He.ga K "SIZES") es n := He.dicW_ok (congrArg (fun z : AlS => z.2) T.says)
theorem Tx.glo_ (T : Tx w K mg) {x : Str} (c : (He.Fa.glo x).ok K = true) : mg x = some (.ref (He.ga K x)) := by obtain ⟨h, X, G⟩ := T.ex; exact He.glo_ok X G c
theorem Tx.free_ (T : Tx w K mg) {x : Str} (c : (He.Fa.free x).ok K = true) : mg x = none := by obtain ⟨h, X, G⟩ := T.ex; exact He.free_ok X G c
theorem Tx.int_ (T : Tx w K mg) {x : Str} {i : Int} (c : (He.Fa.int x i).ok K = true) : ∃ u, mg x = some u ∧ RelV (.int i) u := by obtain ⟨h, X, G⟩ := T.ex; obtain ⟨t, e⟩ := He.int_ok X G c; exact ⟨_, e, t, rfl⟩
theorem Tx.str_ (T : Tx w K mg) {x z : Str} (c : (He.Fa.str x z).ok K = true) : ∃ u, mg x = some u ∧ RelV (.str z) u := by obtain ⟨h, X, G⟩ := T.ex; obtain ⟨t, e⟩ := He.str_ok X G c; exact ⟨_, e, t, rfl⟩
def fdOf (K : PySem.W.Frag) (a : Addr) : FuncData := match K.lookup a with
  | some ⟨_, _, .func fd, _⟩ => fd
  | _ => PySem.W.fnOf Str.empty Str.empty (defArgs (top 0)) [] (defScope (top 0)) .none .none .none .none none .none .none
abbrev DefOk (K : PySem.W.Frag) (d : He.DefD) : Prop := FunD K d.name d.qual d.params d.body d.scope (d.dvs K) (d.kws K) (He.fAd K d.at_) (fdOf K (He.fAd K d.at_))
theorem Tx.def_ (T : Tx w K mg) (i : Nat) {d : He.DefD} (h : fn[i]? = some d) : DefOk K d := by
  obtain ⟨fd, F⟩ := T.sd.def_ i h
  obtain ⟨oc, od, dV, kV, doc, pm, an, cdv, ct, osl, e, l, r⟩ := F.ex
  have q : fdOf K (He.fAd K d.at_) = fd := by unfold fdOf; rw [l]
  show FunD _ _ _ _ _ _ _ _ _ _
  rw [q]; exact F
theorem Tx.g_letter_of (T : Tx w K mg) : mg "letter_of" = some (.ref (He.ga K "letter_of")) := T.glo_ (T.sd.fact 0 rfl)
theorem Tx.kp_letter_of (T : Tx w K mg) : PySem.W.keepIn K (.ref (He.ga K "letter_of")) = true := He.keep_ok (T.sd.fact 1 rfl)
theorem Tx.g_text_of (T : Tx w K mg) : mg "text_of" = some (.ref (He.ga K "text_of")) := T.glo_ (T.sd.fact 2 rfl)
theorem Tx.kp_text_of (T : Tx w K mg) : PySem.W.keepIn K (.ref (He.ga K "text_of")) = true := He.keep_ok (T.sd.fact 3 rfl)
theorem Tx.g_octets_in (T : Tx w K mg) : mg "octets_in" = some (.ref (He.ga K "octets_in")) := T.glo_ (T.sd.fact 4 rfl)
theorem Tx.kp_octets_in (T : Tx w K mg) : PySem.W.keepIn K (.ref (He.ga K "octets_in")) = true := He.keep_ok (T.sd.fact 5 rfl)
theorem Tx.g_need_kind (T : Tx w K mg) : mg "need_kind" = some (.ref (He.ga K "need_kind")) := T.glo_ (T.sd.fact 6 rfl)
theorem Tx.kp_need_kind (T : Tx w K mg) : PySem.W.keepIn K (.ref (He.ga K "need_kind")) = true := He.keep_ok (T.sd.fact 7 rfl)
theorem Tx.g_need_range (T : Tx w K mg) : mg "need_range" = some (.ref (He.ga K "need_range")) := T.glo_ (T.sd.fact 8 rfl)
theorem Tx.kp_need_range (T : Tx w K mg) : PySem.W.keepIn K (.ref (He.ga K "need_range")) = true := He.keep_ok (T.sd.fact 9 rfl)
theorem Tx.g_is_number (T : Tx w K mg) : mg "is_number" = some (.ref (He.ga K "is_number")) := T.glo_ (T.sd.fact 10 rfl)
theorem Tx.kp_is_number (T : Tx w K mg) : PySem.W.keepIn K (.ref (He.ga K "is_number")) = true := He.keep_ok (T.sd.fact 11 rfl)
theorem Tx.g_is_within (T : Tx w K mg) : mg "is_within" = some (.ref (He.ga K "is_within")) := T.glo_ (T.sd.fact 12 rfl)
theorem Tx.kp_is_within (T : Tx w K mg) : PySem.W.keepIn K (.ref (He.ga K "is_within")) = true := He.keep_ok (T.sd.fact 13 rfl)
theorem Tx.g_read_request (T : Tx w K mg) : mg "read_request" = some (.ref (He.ga K "read_request")) := T.glo_ (T.sd.fact 14 rfl)
theorem Tx.kp_read_request (T : Tx w K mg) : PySem.W.keepIn K (.ref (He.ga K "read_request")) = true := He.keep_ok (T.sd.fact 15 rfl)
theorem Tx.g_number_octets (T : Tx w K mg) : mg "number_octets" = some (.ref (He.ga K "number_octets")) := T.glo_ (T.sd.fact 16 rfl)
theorem Tx.kp_number_octets (T : Tx w K mg) : PySem.W.keepIn K (.ref (He.ga K "number_octets")) = true := He.keep_ok (T.sd.fact 17 rfl)
theorem Tx.g_text_octets (T : Tx w K mg) : mg "text_octets" = some (.ref (He.ga K "text_octets")) := T.glo_ (T.sd.fact 18 rfl)
theorem Tx.kp_text_octets (T : Tx w K mg) : PySem.W.keepIn K (.ref (He.ga K "text_octets")) = true := He.keep_ok (T.sd.fact 19 rfl)
theorem Tx.g_octets_of (T : Tx w K mg) : mg "octets_of" = some (.ref (He.ga K "octets_of")) := T.glo_ (T.sd.fact 20 rfl)
theorem Tx.kp_octets_of (T : Tx w K mg) : PySem.W.keepIn K (.ref (He.ga K "octets_of")) = true := He.keep_ok (T.sd.fact 21 rfl)
theorem Tx.g_refusal_octets (T : Tx w K mg) : mg "refusal_octets" = some (.ref (He.ga K "refusal_octets")) := T.glo_ (T.sd.fact 22 rfl)
theorem Tx.kp_refusal_octets (T : Tx w K mg) : PySem.W.keepIn K (.ref (He.ga K "refusal_octets")) = true := He.keep_ok (T.sd.fact 23 rfl)
theorem Tx.g_need_within (T : Tx w K mg) : mg "need_within" = some (.ref (He.ga K "need_within")) := T.glo_ (T.sd.fact 24 rfl)
theorem Tx.kp_need_within (T : Tx w K mg) : PySem.W.keepIn K (.ref (He.ga K "need_within")) = true := He.keep_ok (T.sd.fact 25 rfl)
theorem Tx.g_need_or_null (T : Tx w K mg) : mg "need_or_null" = some (.ref (He.ga K "need_or_null")) := T.glo_ (T.sd.fact 26 rfl)
theorem Tx.kp_need_or_null (T : Tx w K mg) : PySem.W.keepIn K (.ref (He.ga K "need_or_null")) = true := He.keep_ok (T.sd.fact 27 rfl)
theorem Tx.g_read_rules (T : Tx w K mg) : mg "read_rules" = some (.ref (He.ga K "read_rules")) := T.glo_ (T.sd.fact 28 rfl)
theorem Tx.kp_read_rules (T : Tx w K mg) : PySem.W.keepIn K (.ref (He.ga K "read_rules")) = true := He.keep_ok (T.sd.fact 29 rfl)
theorem Tx.g_told_pair (T : Tx w K mg) : mg "told_pair" = some (.ref (He.ga K "told_pair")) := T.glo_ (T.sd.fact 30 rfl)
theorem Tx.kp_told_pair (T : Tx w K mg) : PySem.W.keepIn K (.ref (He.ga K "told_pair")) = true := He.keep_ok (T.sd.fact 31 rfl)
theorem Tx.g_is_step (T : Tx w K mg) : mg "is_step" = some (.ref (He.ga K "is_step")) := T.glo_ (T.sd.fact 32 rfl)
theorem Tx.kp_is_step (T : Tx w K mg) : PySem.W.keepIn K (.ref (He.ga K "is_step")) = true := He.keep_ok (T.sd.fact 33 rfl)
theorem Tx.g_played (T : Tx w K mg) : mg "played" = some (.ref (He.ga K "played")) := T.glo_ (T.sd.fact 34 rfl)
theorem Tx.kp_played (T : Tx w K mg) : PySem.W.keepIn K (.ref (He.ga K "played")) = true := He.keep_ok (T.sd.fact 35 rfl)
theorem Tx.g_slot_of (T : Tx w K mg) : mg "slot_of" = some (.ref (He.ga K "slot_of")) := T.glo_ (T.sd.fact 36 rfl)
theorem Tx.kp_slot_of (T : Tx w K mg) : PySem.W.keepIn K (.ref (He.ga K "slot_of")) = true := He.keep_ok (T.sd.fact 37 rfl)
theorem Tx.g_about_rules (T : Tx w K mg) : mg "about_rules" = some (.ref (He.ga K "about_rules")) := T.glo_ (T.sd.fact 38 rfl)
theorem Tx.kp_about_rules (T : Tx w K mg) : PySem.W.keepIn K (.ref (He.ga K "about_rules")) = true := He.keep_ok (T.sd.fact 39 rfl)
theorem Tx.g_about_server (T : Tx w K mg) : mg "about_server" = some (.ref (He.ga K "about_server")) := T.glo_ (T.sd.fact 40 rfl)
theorem Tx.kp_about_server (T : Tx w K mg) : PySem.W.keepIn K (.ref (He.ga K "about_server")) = true := He.keep_ok (T.sd.fact 41 rfl)
theorem Tx.g_answer (T : Tx w K mg) : mg "answer" = some (.ref (He.ga K "answer")) := T.glo_ (T.sd.fact 42 rfl)
theorem Tx.kp_answer (T : Tx w K mg) : PySem.W.keepIn K (.ref (He.ga K "answer")) = true := He.keep_ok (T.sd.fact 43 rfl)
theorem Tx.g_answers (T : Tx w K mg) : mg "answers" = some (.ref (He.ga K "answers")) := T.glo_ (T.sd.fact 44 rfl)
theorem Tx.kp_answers (T : Tx w K mg) : PySem.W.keepIn K (.ref (He.ga K "answers")) = true := He.keep_ok (T.sd.fact 45 rfl)
theorem Tx.g_Malformed (T : Tx w K mg) : mg "Malformed" = some (.ref (He.ga K "Malformed")) := T.glo_ (T.sd.fact 46 rfl)
theorem Tx.g_Refused (T : Tx w K mg) : mg "Refused" = some (.ref (He.ga K "Refused")) := T.glo_ (T.sd.fact 47 rfl)
theorem Tx.g_Nothing (T : Tx w K mg) : mg "Nothing" = some (.ref (He.ga K "Nothing")) := T.glo_ (T.sd.fact 48 rfl)
theorem Tx.c_Nothing (T : Tx w K mg) : Cls K (He.ga K "Nothing") := He.cls_ok (T.sd.fact 49 rfl)
theorem Tx.kp_Nothing (T : Tx w K mg) : PySem.W.keepIn K (.ref (He.ga K "Nothing")) = true := He.keep_ok (T.sd.fact 50 rfl)
theorem Tx.g_Record (T : Tx w K mg) : mg "Record" = some (.ref (He.ga K "Record")) := T.glo_ (T.sd.fact 51 rfl)
theorem Tx.c_Record (T : Tx w K mg) : Cls K (He.ga K "Record") := He.cls_ok (T.sd.fact 52 rfl)
theorem Tx.kp_Record (T : Tx w K mg) : PySem.W.keepIn K (.ref (He.ga K "Record")) = true := He.keep_ok (T.sd.fact 53 rfl)
theorem Tx.n_Record_members (T : Tx w K mg) : NoAttr K (He.ga K "Record") "members" := He.noat_ok (T.sd.fact 54 rfl)
theorem Tx.k_Record (T : Tx w K mg) : Mk K (He.ga K "Record") (He.ma K (He.ga K "Record") "__init__") := He.mkr_ok (T.sd.fact 55 rfl)
theorem Tx.m_Record_member (T : Tx w K mg) : Meth K (He.ga K "Record") "member" (He.ma K (He.ga K "Record") "member") := He.meth_ok (T.sd.fact 56 rfl)
theorem Tx.g_Reader (T : Tx w K mg) : mg "Reader" = some (.ref (He.ga K "Reader")) := T.glo_ (T.sd.fact 57 rfl)
theorem Tx.c_Reader (T : Tx w K mg) : Cls K (He.ga K "Reader") := He.cls_ok (T.sd.fact 58 rfl)
theorem Tx.kp_Reader (T : Tx w K mg) : PySem.W.keepIn K (.ref (He.ga K "Reader")) = true := He.keep_ok (T.sd.fact 59 rfl)
theorem Tx.n_Reader_octets (T : Tx w K mg) : NoAttr K (He.ga K "Reader") "octets" := He.noat_ok (T.sd.fact 60 rfl)
theorem Tx.n_Reader_at (T : Tx w K mg) : NoAttr K (He.ga K "Reader") "at" := He.noat_ok (T.sd.fact 61 rfl)
theorem Tx.k_Reader (T : Tx w K mg) : Mk K (He.ga K "Reader") (He.ma K (He.ga K "Reader") "__init__") := He.mkr_ok (T.sd.fact 62 rfl)
theorem Tx.m_Reader_take (T : Tx w K mg) : Meth K (He.ga K "Reader") "take" (He.ma K (He.ga K "Reader") "take") := He.meth_ok (T.sd.fact 63 rfl)
theorem Tx.m_Reader_take_number (T : Tx w K mg) : Meth K (He.ga K "Reader") "take_number" (He.ma K (He.ga K "Reader") "take_number") := He.meth_ok (T.sd.fact 64 rfl)
theorem Tx.m_Reader_take_text (T : Tx w K mg) : Meth K (He.ga K "Reader") "take_text" (He.ma K (He.ga K "Reader") "take_text") := He.meth_ok (T.sd.fact 65 rfl)
theorem Tx.m_Reader_take_plain (T : Tx w K mg) : Meth K (He.ga K "Reader") "take_plain" (He.ma K (He.ga K "Reader") "take_plain") := He.meth_ok (T.sd.fact 66 rfl)
theorem Tx.m_Reader_take_value (T : Tx w K mg) : Meth K (He.ga K "Reader") "take_value" (He.ma K (He.ga K "Reader") "take_value") := He.meth_ok (T.sd.fact 67 rfl)
theorem Tx.g_Rules (T : Tx w K mg) : mg "Rules" = some (.ref (He.ga K "Rules")) := T.glo_ (T.sd.fact 68 rfl)
theorem Tx.c_Rules (T : Tx w K mg) : Cls K (He.ga K "Rules") := He.cls_ok (T.sd.fact 69 rfl)
theorem Tx.kp_Rules (T : Tx w K mg) : PySem.W.keepIn K (.ref (He.ga K "Rules")) = true := He.keep_ok (T.sd.fact 70 rfl)
theorem Tx.n_Rules_owners (T : Tx w K mg) : NoAttr K (He.ga K "Rules") "owners" := He.noat_ok (T.sd.fact 71 rfl)
theorem Tx.n_Rules_delay (T : Tx w K mg) : NoAttr K (He.ga K "Rules") "delay" := He.noat_ok (T.sd.fact 72 rfl)
theorem Tx.n_Rules_life (T : Tx w K mg) : NoAttr K (He.ga K "Rules") "life" := He.noat_ok (T.sd.fact 73 rfl)
theorem Tx.n_Rules_number (T : Tx w K mg) : NoAttr K (He.ga K "Rules") "number" := He.noat_ok (T.sd.fact 74 rfl)
theorem Tx.n_Rules_grant (T : Tx w K mg) : NoAttr K (He.ga K "Rules") "grant" := He.noat_ok (T.sd.fact 75 rfl)
theorem Tx.n_Rules_session (T : Tx w K mg) : NoAttr K (He.ga K "Rules") "session" := He.noat_ok (T.sd.fact 76 rfl)
theorem Tx.n_Rules_bound (T : Tx w K mg) : NoAttr K (He.ga K "Rules") "bound" := He.noat_ok (T.sd.fact 77 rfl)
theorem Tx.n_Rules_near (T : Tx w K mg) : NoAttr K (He.ga K "Rules") "near" := He.noat_ok (T.sd.fact 78 rfl)
theorem Tx.n_Rules_hello (T : Tx w K mg) : NoAttr K (He.ga K "Rules") "hello" := He.noat_ok (T.sd.fact 79 rfl)
theorem Tx.n_Rules_once (T : Tx w K mg) : NoAttr K (He.ga K "Rules") "once" := He.noat_ok (T.sd.fact 80 rfl)
theorem Tx.k_Rules (T : Tx w K mg) : Mk K (He.ga K "Rules") (He.ma K (He.ga K "Rules") "__init__") := He.mkr_ok (T.sd.fact 81 rfl)
theorem Tx.m_Rules_keying (T : Tx w K mg) : Meth K (He.ga K "Rules") "keying" (He.ma K (He.ga K "Rules") "keying") := He.meth_ok (T.sd.fact 82 rfl)
theorem Tx.m_Rules_granting (T : Tx w K mg) : Meth K (He.ga K "Rules") "granting" (He.ma K (He.ga K "Rules") "granting") := He.meth_ok (T.sd.fact 83 rfl)
theorem Tx.m_Rules_exceeds (T : Tx w K mg) : Meth K (He.ga K "Rules") "exceeds" (He.ma K (He.ga K "Rules") "exceeds") := He.meth_ok (T.sd.fact 84 rfl)
theorem Tx.m_Rules_do_pass (T : Tx w K mg) : Meth K (He.ga K "Rules") "do_pass" (He.ma K (He.ga K "Rules") "do_pass") := He.meth_ok (T.sd.fact 85 rfl)
theorem Tx.m_Rules_by_page (T : Tx w K mg) : Meth K (He.ga K "Rules") "by_page" (He.ma K (He.ga K "Rules") "by_page") := He.meth_ok (T.sd.fact 86 rfl)
theorem Tx.m_Rules_by_code (T : Tx w K mg) : Meth K (He.ga K "Rules") "by_code" (He.ma K (He.ga K "Rules") "by_code") := He.meth_ok (T.sd.fact 87 rfl)
theorem Tx.m_Rules_can_steal (T : Tx w K mg) : Meth K (He.ga K "Rules") "can_steal" (He.ma K (He.ga K "Rules") "can_steal") := He.meth_ok (T.sd.fact 88 rfl)
theorem Tx.m_Rules_can_foist (T : Tx w K mg) : Meth K (He.ga K "Rules") "can_foist" (He.ma K (He.ga K "Rules") "can_foist") := He.meth_ok (T.sd.fact 89 rfl)
theorem Tx.m_Rules_waited (T : Tx w K mg) : Meth K (He.ga K "Rules") "waited" (He.ma K (He.ga K "Rules") "waited") := He.meth_ok (T.sd.fact 90 rfl)
theorem Tx.m_Rules_typed (T : Tx w K mg) : Meth K (He.ga K "Rules") "typed" (He.ma K (He.ga K "Rules") "typed") := He.meth_ok (T.sd.fact 91 rfl)
theorem Tx.m_Rules_theft (T : Tx w K mg) : Meth K (He.ga K "Rules") "theft" (He.ma K (He.ga K "Rules") "theft") := He.meth_ok (T.sd.fact 92 rfl)
theorem Tx.m_Rules_foist (T : Tx w K mg) : Meth K (He.ga K "Rules") "foist" (He.ma K (He.ga K "Rules") "foist") := He.meth_ok (T.sd.fact 93 rfl)
theorem Tx.m_Rules_longest (T : Tx w K mg) : Meth K (He.ga K "Rules") "longest" (He.ma K (He.ga K "Rules") "longest") := He.meth_ok (T.sd.fact 94 rfl)
theorem Tx.m_Rules_greatest_life (T : Tx w K mg) : Meth K (He.ga K "Rules") "greatest_life" (He.ma K (He.ga K "Rules") "greatest_life") := He.meth_ok (T.sd.fact 95 rfl)
theorem Tx.m_Rules_sign_in (T : Tx w K mg) : Meth K (He.ga K "Rules") "sign_in" (He.ma K (He.ga K "Rules") "sign_in") := He.meth_ok (T.sd.fact 96 rfl)
theorem Tx.m_Rules_told (T : Tx w K mg) : Meth K (He.ga K "Rules") "told" (He.ma K (He.ga K "Rules") "told") := He.meth_ok (T.sd.fact 97 rfl)
theorem Tx.g_Login (T : Tx w K mg) : mg "Login" = some (.ref (He.ga K "Login")) := T.glo_ (T.sd.fact 98 rfl)
theorem Tx.c_Login (T : Tx w K mg) : Cls K (He.ga K "Login") := He.cls_ok (T.sd.fact 99 rfl)
theorem Tx.kp_Login (T : Tx w K mg) : PySem.W.keepIn K (.ref (He.ga K "Login")) = true := He.keep_ok (T.sd.fact 100 rfl)
theorem Tx.n_Login_browser (T : Tx w K mg) : NoAttr K (He.ga K "Login") "browser" := He.noat_ok (T.sd.fact 101 rfl)
theorem Tx.n_Login_made (T : Tx w K mg) : NoAttr K (He.ga K "Login") "made" := He.noat_ok (T.sd.fact 102 rfl)
theorem Tx.n_Login_scan (T : Tx w K mg) : NoAttr K (He.ga K "Login") "scan" := He.noat_ok (T.sd.fact 103 rfl)
theorem Tx.n_Login_given (T : Tx w K mg) : NoAttr K (He.ga K "Login") "given" := He.noat_ok (T.sd.fact 104 rfl)
theorem Tx.n_Login_is_taken (T : Tx w K mg) : NoAttr K (He.ga K "Login") "is_taken" := He.noat_ok (T.sd.fact 105 rfl)
theorem Tx.k_Login (T : Tx w K mg) : Mk K (He.ga K "Login") (He.ma K (He.ga K "Login") "__init__") := He.mkr_ok (T.sd.fact 106 rfl)
theorem Tx.m_Login_told (T : Tx w K mg) : Meth K (He.ga K "Login") "told" (He.ma K (He.ga K "Login") "told") := He.meth_ok (T.sd.fact 107 rfl)
theorem Tx.g_State (T : Tx w K mg) : mg "State" = some (.ref (He.ga K "State")) := T.glo_ (T.sd.fact 108 rfl)
theorem Tx.c_State (T : Tx w K mg) : Cls K (He.ga K "State") := He.cls_ok (T.sd.fact 109 rfl)
theorem Tx.kp_State (T : Tx w K mg) : PySem.W.keepIn K (.ref (He.ga K "State")) = true := He.keep_ok (T.sd.fact 110 rfl)
theorem Tx.n_State_now (T : Tx w K mg) : NoAttr K (He.ga K "State") "now" := He.noat_ok (T.sd.fact 111 rfl)
theorem Tx.n_State_logins (T : Tx w K mg) : NoAttr K (He.ga K "State") "logins" := He.noat_ok (T.sd.fact 112 rfl)
theorem Tx.n_State_sessions (T : Tx w K mg) : NoAttr K (He.ga K "State") "sessions" := He.noat_ok (T.sd.fact 113 rfl)
theorem Tx.k_State (T : Tx w K mg) : Mk K (He.ga K "State") (He.ma K (He.ga K "State") "__init__") := He.mkr_ok (T.sd.fact 114 rfl)
theorem Tx.m_State_later (T : Tx w K mg) : Meth K (He.ga K "State") "later" (He.ma K (He.ga K "State") "later") := He.meth_ok (T.sd.fact 115 rfl)
theorem Tx.m_State_with_login (T : Tx w K mg) : Meth K (He.ga K "State") "with_login" (He.ma K (He.ga K "State") "with_login") := He.meth_ok (T.sd.fact 116 rfl)
theorem Tx.m_State_with_session (T : Tx w K mg) : Meth K (He.ga K "State") "with_session" (He.ma K (He.ga K "State") "with_session") := He.meth_ok (T.sd.fact 117 rfl)
theorem Tx.g_Server (T : Tx w K mg) : mg "Server" = some (.ref (He.ga K "Server")) := T.glo_ (T.sd.fact 118 rfl)
theorem Tx.c_Server (T : Tx w K mg) : Cls K (He.ga K "Server") := He.cls_ok (T.sd.fact 119 rfl)
theorem Tx.kp_Server (T : Tx w K mg) : PySem.W.keepIn K (.ref (He.ga K "Server")) = true := He.keep_ok (T.sd.fact 120 rfl)
theorem Tx.n_Server_rules (T : Tx w K mg) : NoAttr K (He.ga K "Server") "rules" := He.noat_ok (T.sd.fact 121 rfl)
theorem Tx.n_Server_states (T : Tx w K mg) : NoAttr K (He.ga K "Server") "states" := He.noat_ok (T.sd.fact 122 rfl)
theorem Tx.k_Server (T : Tx w K mg) : Mk K (He.ga K "Server") (He.ma K (He.ga K "Server") "__init__") := He.mkr_ok (T.sd.fact 123 rfl)
theorem Tx.m_Server_state (T : Tx w K mg) : Meth K (He.ga K "Server") "state" (He.ma K (He.ga K "Server") "state") := He.meth_ok (T.sd.fact 124 rfl)
theorem Tx.m_Server_add (T : Tx w K mg) : Meth K (He.ga K "Server") "add" (He.ma K (He.ga K "Server") "add") := He.meth_ok (T.sd.fact 125 rfl)
theorem Tx.m_Server_undo (T : Tx w K mg) : Meth K (He.ga K "Server") "undo" (He.ma K (He.ga K "Server") "undo") := He.meth_ok (T.sd.fact 126 rfl)
theorem Tx.m_Server_known_from (T : Tx w K mg) : Meth K (He.ga K "Server") "known_from" (He.ma K (He.ga K "Server") "known_from") := He.meth_ok (T.sd.fact 127 rfl)
theorem Tx.m_Server_is_seen_by (T : Tx w K mg) : Meth K (He.ga K "Server") "is_seen_by" (He.ma K (He.ga K "Server") "is_seen_by") := He.meth_ok (T.sd.fact 128 rfl)
theorem Tx.m_Server_is_current (T : Tx w K mg) : Meth K (He.ga K "Server") "is_current" (He.ma K (He.ga K "Server") "is_current") := He.meth_ok (T.sd.fact 129 rfl)
theorem Tx.m_Server_sees_code (T : Tx w K mg) : Meth K (He.ga K "Server") "sees_code" (He.ma K (He.ga K "Server") "sees_code") := He.meth_ok (T.sd.fact 130 rfl)
theorem Tx.m_Server_sees_number (T : Tx w K mg) : Meth K (He.ga K "Server") "sees_number" (He.ma K (He.ga K "Server") "sees_number") := He.meth_ok (T.sd.fact 131 rfl)
theorem Tx.m_Server_signed_in (T : Tx w K mg) : Meth K (He.ga K "Server") "signed_in" (He.ma K (He.ga K "Server") "signed_in") := He.meth_ok (T.sd.fact 132 rfl)
theorem Tx.m_Server_need_hand (T : Tx w K mg) : Meth K (He.ga K "Server") "need_hand" (He.ma K (He.ga K "Server") "need_hand") := He.meth_ok (T.sd.fact 133 rfl)
theorem Tx.m_Server_need_login (T : Tx w K mg) : Meth K (He.ga K "Server") "need_login" (He.ma K (He.ga K "Server") "need_login") := He.meth_ok (T.sd.fact 134 rfl)
theorem Tx.m_Server_ask (T : Tx w K mg) : Meth K (He.ga K "Server") "ask" (He.ma K (He.ga K "Server") "ask") := He.meth_ok (T.sd.fact 135 rfl)
theorem Tx.m_Server_scan_code (T : Tx w K mg) : Meth K (He.ga K "Server") "scan_code" (He.ma K (He.ga K "Server") "scan_code") := He.meth_ok (T.sd.fact 136 rfl)
theorem Tx.m_Server_type_in (T : Tx w K mg) : Meth K (He.ga K "Server") "type_in" (He.ma K (He.ga K "Server") "type_in") := He.meth_ok (T.sd.fact 137 rfl)
theorem Tx.m_Server_may_collect (T : Tx w K mg) : Meth K (He.ga K "Server") "may_collect" (He.ma K (He.ga K "Server") "may_collect") := He.meth_ok (T.sd.fact 138 rfl)
theorem Tx.m_Server_collect (T : Tx w K mg) : Meth K (He.ga K "Server") "collect" (He.ma K (He.ga K "Server") "collect") := He.meth_ok (T.sd.fact 139 rfl)
theorem Tx.m_Server_leave (T : Tx w K mg) : Meth K (He.ga K "Server") "leave" (He.ma K (He.ga K "Server") "leave") := He.meth_ok (T.sd.fact 140 rfl)
theorem Tx.m_Server_tick (T : Tx w K mg) : Meth K (He.ga K "Server") "tick" (He.ma K (He.ga K "Server") "tick") := He.meth_ok (T.sd.fact 141 rfl)
theorem Tx.m_Server_step (T : Tx w K mg) : Meth K (He.ga K "Server") "step" (He.ma K (He.ga K "Server") "step") := He.meth_ok (T.sd.fact 142 rfl)
theorem Tx.m_Server_told (T : Tx w K mg) : Meth K (He.ga K "Server") "told" (He.ma K (He.ga K "Server") "told") := He.meth_ok (T.sd.fact 143 rfl)
theorem Tx.g_Desk (T : Tx w K mg) : mg "Desk" = some (.ref (He.ga K "Desk")) := T.glo_ (T.sd.fact 144 rfl)
theorem Tx.c_Desk (T : Tx w K mg) : Cls K (He.ga K "Desk") := He.cls_ok (T.sd.fact 145 rfl)
theorem Tx.kp_Desk (T : Tx w K mg) : PySem.W.keepIn K (.ref (He.ga K "Desk")) = true := He.keep_ok (T.sd.fact 146 rfl)
theorem Tx.n_Desk_rules (T : Tx w K mg) : NoAttr K (He.ga K "Desk") "rules" := He.noat_ok (T.sd.fact 147 rfl)
theorem Tx.n_Desk_servers (T : Tx w K mg) : NoAttr K (He.ga K "Desk") "servers" := He.noat_ok (T.sd.fact 148 rfl)
theorem Tx.k_Desk (T : Tx w K mg) : Mk K (He.ga K "Desk") (He.ma K (He.ga K "Desk") "__init__") := He.mkr_ok (T.sd.fact 149 rfl)
theorem Tx.m_Desk_rules_in (T : Tx w K mg) : Meth K (He.ga K "Desk") "rules_in" (He.ma K (He.ga K "Desk") "rules_in") := He.meth_ok (T.sd.fact 150 rfl)
theorem Tx.m_Desk_server_in (T : Tx w K mg) : Meth K (He.ga K "Desk") "server_in" (He.ma K (He.ga K "Desk") "server_in") := He.meth_ok (T.sd.fact 151 rfl)
theorem Tx.m_Desk_call (T : Tx w K mg) : Meth K (He.ga K "Desk") "call" (He.ma K (He.ga K "Desk") "call") := He.meth_ok (T.sd.fact 152 rfl)
theorem Tx.i_LINE_END (T : Tx w K mg) : ∃ u, mg "LINE_END" = some u ∧ RelV (.int 10) u := T.int_ (T.sd.fact 153 rfl)
theorem Tx.i_FIRST (T : Tx w K mg) : ∃ u, mg "FIRST" = some u ∧ RelV (.int 32) u := T.int_ (T.sd.fact 154 rfl)
theorem Tx.i_LAST (T : Tx w K mg) : ∃ u, mg "LAST" = some u ∧ RelV (.int 126) u := T.int_ (T.sd.fact 155 rfl)
theorem Tx.i_PERCENT (T : Tx w K mg) : ∃ u, mg "PERCENT" = some u ∧ RelV (.int 37) u := T.int_ (T.sd.fact 156 rfl)
theorem Tx.i_MOST_NEST (T : Tx w K mg) : ∃ u, mg "MOST_NEST" = some u ∧ RelV (.int 32) u := T.int_ (T.sd.fact 157 rfl)
theorem Tx.i_MOST_NUMBER (T : Tx w K mg) : ∃ u, mg "MOST_NUMBER" = some u ∧ RelV (.int 9007199254740991) u := T.int_ (T.sd.fact 158 rfl)
theorem Tx.i_SMALL (T : Tx w K mg) : ∃ u, mg "SMALL" = some u ∧ RelV (.int 9223372036854775808) u := T.int_ (T.sd.fact 159 rfl)
theorem Tx.i_WIDE (T : Tx w K mg) : ∃ u, mg "WIDE" = some u ∧ RelV (.int 18446744073709551616) u := T.int_ (T.sd.fact 160 rfl)
theorem Tx.i_NOTHING (T : Tx w K mg) : ∃ u, mg "NOTHING" = some u ∧ RelV (.int 0) u := T.int_ (T.sd.fact 161 rfl)
theorem Tx.i_NULL (T : Tx w K mg) : ∃ u, mg "NULL" = some u ∧ RelV (.int 1) u := T.int_ (T.sd.fact 162 rfl)
theorem Tx.i_FALSE (T : Tx w K mg) : ∃ u, mg "FALSE" = some u ∧ RelV (.int 2) u := T.int_ (T.sd.fact 163 rfl)
theorem Tx.i_TRUE (T : Tx w K mg) : ∃ u, mg "TRUE" = some u ∧ RelV (.int 3) u := T.int_ (T.sd.fact 164 rfl)
theorem Tx.i_NUMBER (T : Tx w K mg) : ∃ u, mg "NUMBER" = some u ∧ RelV (.int 4) u := T.int_ (T.sd.fact 165 rfl)
theorem Tx.i_TEXT (T : Tx w K mg) : ∃ u, mg "TEXT" = some u ∧ RelV (.int 6) u := T.int_ (T.sd.fact 166 rfl)
theorem Tx.i_LIST (T : Tx w K mg) : ∃ u, mg "LIST" = some u ∧ RelV (.int 7) u := T.int_ (T.sd.fact 167 rfl)
theorem Tx.i_RECORD (T : Tx w K mg) : ∃ u, mg "RECORD" = some u ∧ RelV (.int 8) u := T.int_ (T.sd.fact 168 rfl)
theorem Tx.i_WRONG_KIND (T : Tx w K mg) : ∃ u, mg "WRONG_KIND" = some u ∧ RelV (.int 1) u := T.int_ (T.sd.fact 169 rfl)
theorem Tx.i_OUT_OF_RANGE (T : Tx w K mg) : ∃ u, mg "OUT_OF_RANGE" = some u ∧ RelV (.int 2) u := T.int_ (T.sd.fact 170 rfl)
theorem Tx.i_MOST_TICKS_rules (T : Tx w K mg) : ∃ u, mg "MOST_TICKS_rules" = some u ∧ RelV (.int 50) u := T.int_ (T.sd.fact 171 rfl)
theorem Tx.i_MOST_STEPS (T : Tx w K mg) : ∃ u, mg "MOST_STEPS" = some u ∧ RelV (.int 300) u := T.int_ (T.sd.fact 172 rfl)
theorem Tx.i_MOST_TICKS_servers (T : Tx w K mg) : ∃ u, mg "MOST_TICKS_servers" = some u ∧ RelV (.int 100) u := T.int_ (T.sd.fact 173 rfl)
theorem Tx.i_SLOTS (T : Tx w K mg) : ∃ u, mg "SLOTS" = some u ∧ RelV (.int 4) u := T.int_ (T.sd.fact 174 rfl)
theorem Tx.s_TABLE (T : Tx w K mg) : ∃ u, mg "TABLE" = some u ∧ RelV (.str " !\"#$|&'()*+,-./0123456789:;<=>?@ABCDEFGHIJKLMNOPQRSTUVWXYZ[\\]^_ abcdefghijklmnopqrstuvwxyz{ }~") u := T.str_ (T.sd.fact 175 rfl)
theorem Tx.s_MARK (T : Tx w K mg) : ∃ u, mg "MARK" = some u ∧ RelV (.str "`") u := T.str_ (T.sd.fact 176 rfl)
theorem Tx.s_BASE (T : Tx w K mg) : ∃ u, mg "BASE" = some u ∧ RelV (.str "0123456789abcdef") u := T.str_ (T.sd.fact 177 rfl)
theorem Tx.s_PERCENT_LETTER (T : Tx w K mg) : ∃ u, mg "PERCENT_LETTER" = some u ∧ RelV (.str "|") u := T.str_ (T.sd.fact 178 rfl)
theorem Tx.g_NOT_PLAIN (T : Tx w K mg) : mg "NOT_PLAIN" = some (.ref (He.ga K "NOT_PLAIN")) := T.glo_ (T.sd.fact 179 rfl)
theorem Tx.g_HABITS (T : Tx w K mg) : mg "HABITS" = some (.ref (He.ga K "HABITS")) := T.glo_ (T.sd.fact 180 rfl)
theorem Tx.g_STEPS (T : Tx w K mg) : mg "STEPS" = some (.ref (He.ga K "STEPS")) := T.glo_ (T.sd.fact 181 rfl)
theorem Tx.g_MANY (T : Tx w K mg) : mg "MANY" = some (.ref (He.ga K "MANY")) := T.glo_ (T.sd.fact 182 rfl)
theorem Tx.g_SIZES (T : Tx w K mg) : mg "SIZES" = some (.ref (He.ga K "SIZES")) := T.glo_ (T.sd.fact 183 rfl)
theorem Tx.f_len (T : Tx w K mg) : mg "len" = none := T.free_ (T.sd.fact 184 rfl)
theorem Tx.f_isinstance (T : Tx w K mg) : mg "isinstance" = none := T.free_ (T.sd.fact 185 rfl)
theorem Tx.f_int (T : Tx w K mg) : mg "int" = none := T.free_ (T.sd.fact 186 rfl)
theorem Tx.f_bool (T : Tx w K mg) : mg "bool" = none := T.free_ (T.sd.fact 187 rfl)
theorem Tx.f_str (T : Tx w K mg) : mg "str" = none := T.free_ (T.sd.fact 188 rfl)
theorem Tx.f_list (T : Tx w K mg) : mg "list" = none := T.free_ (T.sd.fact 189 rfl)
theorem Tx.f_range (T : Tx w K mg) : mg "range" = none := T.free_ (T.sd.fact 190 rfl)
theorem Tx.f_enumerate (T : Tx w K mg) : mg "enumerate" = none := T.free_ (T.sd.fact 191 rfl)
theorem Tx.f_zip (T : Tx w K mg) : mg "zip" = none := T.free_ (T.sd.fact 192 rfl)
theorem Tx.f_max (T : Tx w K mg) : mg "max" = none := T.free_ (T.sd.fact 193 rfl)
theorem Tx.f_ord (T : Tx w K mg) : mg "ord" = none := T.free_ (T.sd.fact 194 rfl)
theorem Tx.f_Exception (T : Tx w K mg) : mg "Exception" = none := T.free_ (T.sd.fact 195 rfl)
theorem Tx.F_letter_of (T : Tx w K mg) : DefOk K d_letter_of := T.def_ 0 rfl
theorem Tx.B_letter_of (T : Tx w K mg) : L2.Binds K (fdOf K (He.fAd K d_letter_of.at_)) ["octet"] [] := T.F_letter_of.bindsN fun _ _ _ _ _ _ us hl => match us, hl with | [_], _ => rfl
theorem Tx.F_text_of (T : Tx w K mg) : DefOk K d_text_of := T.def_ 1 rfl
theorem Tx.B_text_of (T : Tx w K mg) : L2.Binds K (fdOf K (He.fAd K d_text_of.at_)) ["octets"] [] := T.F_text_of.bindsN fun _ _ _ _ _ _ us hl => match us, hl with | [_], _ => rfl
theorem Tx.F_octets_in (T : Tx w K mg) : DefOk K d_octets_in := T.def_ 2 rfl
theorem Tx.B_octets_in (T : Tx w K mg) : L2.Binds K (fdOf K (He.fAd K d_octets_in.at_)) ["text"] [] := T.F_octets_in.bindsN fun _ _ _ _ _ _ us hl => match us, hl with | [_], _ => rfl
theorem Tx.F_Refused_init (T : Tx w K mg) : DefOk K d_Refused_init := T.def_ 3 rfl
theorem Tx.B_Refused_init (T : Tx w K mg) : L2.Binds K (fdOf K (He.fAd K d_Refused_init.at_)) ["self", "manner", "message"] [] := T.F_Refused_init.bindsN fun _ _ _ _ _ _ us hl => match us, hl with | [_, _, _], _ => rfl
theorem Tx.F_Record_init (T : Tx w K mg) : DefOk K d_Record_init := T.def_ 4 rfl
theorem Tx.B_Record_init (T : Tx w K mg) : L2.Binds K (fdOf K (He.fAd K d_Record_init.at_)) ["self", "members"] [] := T.F_Record_init.bindsN fun _ _ _ _ _ _ us hl => match us, hl with | [_, _], _ => rfl
theorem Tx.F_Record_member (T : Tx w K mg) : DefOk K d_Record_member := T.def_ 5 rfl
theorem Tx.B_Record_member (T : Tx w K mg) : L2.Binds K (fdOf K (He.fAd K d_Record_member.at_)) ["self", "name"] [] := T.F_Record_member.bindsN fun _ _ _ _ _ _ us hl => match us, hl with | [_, _], _ => rfl
theorem Tx.F_need_kind (T : Tx w K mg) : DefOk K d_need_kind := T.def_ 6 rfl
theorem Tx.B_need_kind (T : Tx w K mg) : L2.Binds K (fdOf K (He.fAd K d_need_kind.at_)) ["is_so", "message"] [] := T.F_need_kind.bindsN fun _ _ _ _ _ _ us hl => match us, hl with | [_, _], _ => rfl
theorem Tx.F_need_range (T : Tx w K mg) : DefOk K d_need_range := T.def_ 7 rfl
theorem Tx.B_need_range (T : Tx w K mg) : L2.Binds K (fdOf K (He.fAd K d_need_range.at_)) ["is_so", "message"] [] := T.F_need_range.bindsN fun _ _ _ _ _ _ us hl => match us, hl with | [_, _], _ => rfl
theorem Tx.F_is_number (T : Tx w K mg) : DefOk K d_is_number := T.def_ 8 rfl
theorem Tx.B_is_number (T : Tx w K mg) : L2.Binds K (fdOf K (He.fAd K d_is_number.at_)) ["value"] [] := T.F_is_number.bindsN fun _ _ _ _ _ _ us hl => match us, hl with | [_], _ => rfl
theorem Tx.F_is_within (T : Tx w K mg) : DefOk K d_is_within := T.def_ 9 rfl
theorem Tx.B_is_within (T : Tx w K mg) : L2.Binds K (fdOf K (He.fAd K d_is_within.at_)) ["value", "low", "high"] [] := T.F_is_within.bindsN fun _ _ _ _ _ _ us hl => match us, hl with | [_, _, _], _ => rfl
theorem Tx.F_Reader_init (T : Tx w K mg) : DefOk K d_Reader_init := T.def_ 10 rfl
theorem Tx.B_Reader_init (T : Tx w K mg) : L2.Binds K (fdOf K (He.fAd K d_Reader_init.at_)) ["self", "octets"] [] := T.F_Reader_init.bindsN fun _ _ _ _ _ _ us hl => match us, hl with | [_, _], _ => rfl
theorem Tx.F_Reader_take (T : Tx w K mg) : DefOk K d_Reader_take := T.def_ 11 rfl
theorem Tx.B_Reader_take (T : Tx w K mg) : L2.Binds K (fdOf K (He.fAd K d_Reader_take.at_)) ["self", "many"] [] := T.F_Reader_take.bindsN fun _ _ _ _ _ _ us hl => match us, hl with | [_, _], _ => rfl
theorem Tx.F_Reader_take_number (T : Tx w K mg) : DefOk K d_Reader_take_number := T.def_ 12 rfl
theorem Tx.B_Reader_take_number (T : Tx w K mg) : L2.Binds K (fdOf K (He.fAd K d_Reader_take_number.at_)) ["self", "many"] [] := T.F_Reader_take_number.bindsN fun _ _ _ _ _ _ us hl => match us, hl with | [_, _], _ => rfl
theorem Tx.F_Reader_take_text (T : Tx w K mg) : DefOk K d_Reader_take_text := T.def_ 13 rfl
theorem Tx.B_Reader_take_text (T : Tx w K mg) : L2.Binds K (fdOf K (He.fAd K d_Reader_take_text.at_)) ["self"] [] := T.F_Reader_take_text.bindsN fun _ _ _ _ _ _ us hl => match us, hl with | [_], _ => rfl
theorem Tx.F_Reader_take_plain (T : Tx w K mg) : DefOk K d_Reader_take_plain := T.def_ 14 rfl
theorem Tx.B_Reader_take_plain (T : Tx w K mg) : L2.Binds K (fdOf K (He.fAd K d_Reader_take_plain.at_)) ["self", "kind"] [] := T.F_Reader_take_plain.bindsN fun _ _ _ _ _ _ us hl => match us, hl with | [_, _], _ => rfl
theorem Tx.F_Reader_take_value (T : Tx w K mg) : DefOk K d_Reader_take_value := T.def_ 15 rfl
theorem Tx.B_Reader_take_value (T : Tx w K mg) : L2.Binds K (fdOf K (He.fAd K d_Reader_take_value.at_)) ["self"] [] := T.F_Reader_take_value.bindsN fun _ _ _ _ _ _ us hl => match us, hl with | [_], _ => rfl
theorem Tx.F_read_request (T : Tx w K mg) : DefOk K d_read_request := T.def_ 16 rfl
theorem Tx.B_read_request (T : Tx w K mg) : L2.Binds K (fdOf K (He.fAd K d_read_request.at_)) ["octets"] [] := T.F_read_request.bindsN fun _ _ _ _ _ _ us hl => match us, hl with | [_], _ => rfl
theorem Tx.F_number_octets (T : Tx w K mg) : DefOk K d_number_octets := T.def_ 17 rfl
theorem Tx.B_number_octets (T : Tx w K mg) : L2.Binds K (fdOf K (He.fAd K d_number_octets.at_)) ["number", "many"] [] := T.F_number_octets.bindsN fun _ _ _ _ _ _ us hl => match us, hl with | [_, _], _ => rfl
theorem Tx.F_text_octets (T : Tx w K mg) : DefOk K d_text_octets := T.def_ 18 rfl
theorem Tx.B_text_octets (T : Tx w K mg) : L2.Binds K (fdOf K (He.fAd K d_text_octets.at_)) ["text"] [] := T.F_text_octets.bindsN fun _ _ _ _ _ _ us hl => match us, hl with | [_], _ => rfl
theorem Tx.F_octets_of (T : Tx w K mg) : DefOk K d_octets_of := T.def_ 19 rfl
theorem Tx.B_octets_of (T : Tx w K mg) : L2.Binds K (fdOf K (He.fAd K d_octets_of.at_)) ["value"] [] := T.F_octets_of.bindsN fun _ _ _ _ _ _ us hl => match us, hl with | [_], _ => rfl
theorem Tx.F_refusal_octets (T : Tx w K mg) : DefOk K d_refusal_octets := T.def_ 20 rfl
theorem Tx.B_refusal_octets (T : Tx w K mg) : L2.Binds K (fdOf K (He.fAd K d_refusal_octets.at_)) ["refused"] [] := T.F_refusal_octets.bindsN fun _ _ _ _ _ _ us hl => match us, hl with | [_], _ => rfl
theorem Tx.F_Rules_init (T : Tx w K mg) : DefOk K d_Rules_init := T.def_ 21 rfl
theorem Tx.B_Rules_init (T : Tx w K mg) : L2.Binds K (fdOf K (He.fAd K d_Rules_init.at_)) ["self", "numbers", "habits"] [] := T.F_Rules_init.bindsN fun _ _ _ _ _ _ us hl => match us, hl with | [_, _, _], _ => rfl
theorem Tx.F_Rules_keying (T : Tx w K mg) : DefOk K d_Rules_keying := T.def_ 22 rfl
theorem Tx.B_Rules_keying (T : Tx w K mg) : L2.Binds K (fdOf K (He.fAd K d_Rules_keying.at_)) ["self"] [] := T.F_Rules_keying.bindsN fun _ _ _ _ _ _ us hl => match us, hl with | [_], _ => rfl
theorem Tx.F_Rules_granting (T : Tx w K mg) : DefOk K d_Rules_granting := T.def_ 23 rfl
theorem Tx.B_Rules_granting (T : Tx w K mg) : L2.Binds K (fdOf K (He.fAd K d_Rules_granting.at_)) ["self"] [] := T.F_Rules_granting.bindsN fun _ _ _ _ _ _ us hl => match us, hl with | [_], _ => rfl
theorem Tx.F_Rules_exceeds (T : Tx w K mg) : DefOk K d_Rules_exceeds := T.def_ 24 rfl
theorem Tx.B_Rules_exceeds (T : Tx w K mg) : L2.Binds K (fdOf K (He.fAd K d_Rules_exceeds.at_)) ["self", "value"] [] := T.F_Rules_exceeds.bindsN fun _ _ _ _ _ _ us hl => match us, hl with | [_, _], _ => rfl
theorem Tx.F_Rules_do_pass (T : Tx w K mg) : DefOk K d_Rules_do_pass := T.def_ 25 rfl
theorem Tx.B_Rules_do_pass (T : Tx w K mg) : L2.Binds K (fdOf K (He.fAd K d_Rules_do_pass.at_)) ["self"] [] := T.F_Rules_do_pass.bindsN fun _ _ _ _ _ _ us hl => match us, hl with | [_], _ => rfl
theorem Tx.F_Rules_by_page (T : Tx w K mg) : DefOk K d_Rules_by_page := T.def_ 26 rfl
theorem Tx.B_Rules_by_page (T : Tx w K mg) : L2.Binds K (fdOf K (He.fAd K d_Rules_by_page.at_)) ["self"] [] := T.F_Rules_by_page.bindsN fun _ _ _ _ _ _ us hl => match us, hl with | [_], _ => rfl
theorem Tx.F_Rules_by_code (T : Tx w K mg) : DefOk K d_Rules_by_code := T.def_ 27 rfl
theorem Tx.B_Rules_by_code (T : Tx w K mg) : L2.Binds K (fdOf K (He.fAd K d_Rules_by_code.at_)) ["self"] [] := T.F_Rules_by_code.bindsN fun _ _ _ _ _ _ us hl => match us, hl with | [_], _ => rfl
theorem Tx.F_Rules_can_steal (T : Tx w K mg) : DefOk K d_Rules_can_steal := T.def_ 28 rfl
theorem Tx.B_Rules_can_steal (T : Tx w K mg) : L2.Binds K (fdOf K (He.fAd K d_Rules_can_steal.at_)) ["self"] [] := T.F_Rules_can_steal.bindsN fun _ _ _ _ _ _ us hl => match us, hl with | [_], _ => rfl
theorem Tx.F_Rules_can_foist (T : Tx w K mg) : DefOk K d_Rules_can_foist := T.def_ 29 rfl
theorem Tx.B_Rules_can_foist (T : Tx w K mg) : L2.Binds K (fdOf K (He.fAd K d_Rules_can_foist.at_)) ["self"] [] := T.F_Rules_can_foist.bindsN fun _ _ _ _ _ _ us hl => match us, hl with | [_], _ => rfl
theorem Tx.F_Rules_waited (T : Tx w K mg) : DefOk K d_Rules_waited := T.def_ 30 rfl
theorem Tx.B_Rules_waited (T : Tx w K mg) : L2.Binds K (fdOf K (He.fAd K d_Rules_waited.at_)) ["self", "ticks"] [] := T.F_Rules_waited.bindsN fun _ _ _ _ _ _ us hl => match us, hl with | [_, _], _ => rfl
theorem Tx.F_Rules_typed (T : Tx w K mg) : DefOk K d_Rules_typed := T.def_ 31 rfl
theorem Tx.B_Rules_typed (T : Tx w K mg) : L2.Binds K (fdOf K (He.fAd K d_Rules_typed.at_)) ["self", "ticks", "phone"] [] := T.F_Rules_typed.bindsN fun _ _ _ _ _ _ us hl => match us, hl with | [_, _, _], _ => rfl
theorem Tx.F_Rules_theft (T : Tx w K mg) : DefOk K d_Rules_theft := T.def_ 32 rfl
theorem Tx.B_Rules_theft (T : Tx w K mg) : L2.Binds K (fdOf K (He.fAd K d_Rules_theft.at_)) ["self"] [] := T.F_Rules_theft.bindsN fun _ _ _ _ _ _ us hl => match us, hl with | [_], _ => rfl
theorem Tx.F_Rules_foist (T : Tx w K mg) : DefOk K d_Rules_foist := T.def_ 33 rfl
theorem Tx.B_Rules_foist (T : Tx w K mg) : L2.Binds K (fdOf K (He.fAd K d_Rules_foist.at_)) ["self"] [] := T.F_Rules_foist.bindsN fun _ _ _ _ _ _ us hl => match us, hl with | [_], _ => rfl
theorem Tx.F_Rules_longest (T : Tx w K mg) : DefOk K d_Rules_longest := T.def_ 34 rfl
theorem Tx.B_Rules_longest (T : Tx w K mg) : L2.Binds K (fdOf K (He.fAd K d_Rules_longest.at_)) ["self"] [] := T.F_Rules_longest.bindsN fun _ _ _ _ _ _ us hl => match us, hl with | [_], _ => rfl
theorem Tx.F_Rules_greatest_life (T : Tx w K mg) : DefOk K d_Rules_greatest_life := T.def_ 35 rfl
theorem Tx.B_Rules_greatest_life (T : Tx w K mg) : L2.Binds K (fdOf K (He.fAd K d_Rules_greatest_life.at_)) ["self"] [] := T.F_Rules_greatest_life.bindsN fun _ _ _ _ _ _ us hl => match us, hl with | [_], _ => rfl
theorem Tx.F_Rules_sign_in (T : Tx w K mg) : DefOk K d_Rules_sign_in := T.def_ 36 rfl
theorem Tx.B_Rules_sign_in (T : Tx w K mg) : L2.Binds K (fdOf K (He.fAd K d_Rules_sign_in.at_)) ["self", "scan", "keying", "collect"] [] := T.F_Rules_sign_in.bindsN fun _ _ _ _ _ _ us hl => match us, hl with | [_, _, _, _], _ => rfl
theorem Tx.F_Rules_told (T : Tx w K mg) : DefOk K d_Rules_told := T.def_ 37 rfl
theorem Tx.B_Rules_told (T : Tx w K mg) : L2.Binds K (fdOf K (He.fAd K d_Rules_told.at_)) ["self"] [] := T.F_Rules_told.bindsN fun _ _ _ _ _ _ us hl => match us, hl with | [_], _ => rfl
theorem Tx.F_need_within (T : Tx w K mg) : DefOk K d_need_within := T.def_ 38 rfl
theorem Tx.B_need_within (T : Tx w K mg) : L2.Binds K (fdOf K (He.fAd K d_need_within.at_)) ["value", "name", "low", "high"] [] := T.F_need_within.bindsN fun _ _ _ _ _ _ us hl => match us, hl with | [_, _, _, _], _ => rfl
theorem Tx.F_need_or_null (T : Tx w K mg) : DefOk K d_need_or_null := T.def_ 39 rfl
theorem Tx.B_need_or_null (T : Tx w K mg) : L2.Binds K (fdOf K (He.fAd K d_need_or_null.at_)) ["value", "name", "high"] [] := T.F_need_or_null.bindsN fun _ _ _ _ _ _ us hl => match us, hl with | [_, _, _], _ => rfl
theorem Tx.F_read_rules (T : Tx w K mg) : DefOk K d_read_rules := T.def_ 40 rfl
theorem Tx.B_read_rules (T : Tx w K mg) : L2.Binds K (fdOf K (He.fAd K d_read_rules.at_)) ["value"] [] := T.F_read_rules.bindsN fun _ _ _ _ _ _ us hl => match us, hl with | [_], _ => rfl
theorem Tx.F_Login_init (T : Tx w K mg) : DefOk K d_Login_init := T.def_ 41 rfl
theorem Tx.B_Login_init (T : Tx w K mg) : L2.Binds K (fdOf K (He.fAd K d_Login_init.at_)) ["self", "browser", "made", "scan", "given", "is_taken"] [] := T.F_Login_init.bindsN fun _ _ _ _ _ _ us hl => match us, hl with | [_, _, _, _, _, _], _ => rfl
theorem Tx.F_Login_told (T : Tx w K mg) : DefOk K d_Login_told := T.def_ 42 rfl
theorem Tx.B_Login_told (T : Tx w K mg) : L2.Binds K (fdOf K (He.fAd K d_Login_told.at_)) ["self"] [] := T.F_Login_told.bindsN fun _ _ _ _ _ _ us hl => match us, hl with | [_], _ => rfl
theorem Tx.F_told_pair (T : Tx w K mg) : DefOk K d_told_pair := T.def_ 43 rfl
theorem Tx.B_told_pair (T : Tx w K mg) : L2.Binds K (fdOf K (He.fAd K d_told_pair.at_)) ["pair"] [] := T.F_told_pair.bindsN fun _ _ _ _ _ _ us hl => match us, hl with | [_], _ => rfl
theorem Tx.F_State_init (T : Tx w K mg) : DefOk K d_State_init := T.def_ 44 rfl
theorem Tx.B_State_init (T : Tx w K mg) : L2.Binds K (fdOf K (He.fAd K d_State_init.at_)) ["self", "now", "logins", "sessions"] [] := T.F_State_init.bindsN fun _ _ _ _ _ _ us hl => match us, hl with | [_, _, _, _], _ => rfl
theorem Tx.F_State_later (T : Tx w K mg) : DefOk K d_State_later := T.def_ 45 rfl
theorem Tx.B_State_later (T : Tx w K mg) : L2.Binds K (fdOf K (He.fAd K d_State_later.at_)) ["self", "ticks"] [] := T.F_State_later.bindsN fun _ _ _ _ _ _ us hl => match us, hl with | [_, _], _ => rfl
theorem Tx.F_State_with_login (T : Tx w K mg) : DefOk K d_State_with_login := T.def_ 46 rfl
theorem Tx.B_State_with_login (T : Tx w K mg) : L2.Binds K (fdOf K (He.fAd K d_State_with_login.at_)) ["self", "number", "login"] [] := T.F_State_with_login.bindsN fun _ _ _ _ _ _ us hl => match us, hl with | [_, _, _], _ => rfl
theorem Tx.F_State_with_session (T : Tx w K mg) : DefOk K d_State_with_session := T.def_ 47 rfl
theorem Tx.B_State_with_session (T : Tx w K mg) : L2.Binds K (fdOf K (He.fAd K d_State_with_session.at_)) ["self", "browser", "session"] [] := T.F_State_with_session.bindsN fun _ _ _ _ _ _ us hl => match us, hl with | [_, _, _], _ => rfl
theorem Tx.F_Server_init (T : Tx w K mg) : DefOk K d_Server_init := T.def_ 48 rfl
theorem Tx.B_Server_init (T : Tx w K mg) : L2.Binds K (fdOf K (He.fAd K d_Server_init.at_)) ["self", "rules"] [] := T.F_Server_init.bindsN fun _ _ _ _ _ _ us hl => match us, hl with | [_, _], _ => rfl
theorem Tx.F_Server_state (T : Tx w K mg) : DefOk K d_Server_state := T.def_ 49 rfl
theorem Tx.B_Server_state (T : Tx w K mg) : L2.Binds K (fdOf K (He.fAd K d_Server_state.at_)) ["self"] [] := T.F_Server_state.bindsN fun _ _ _ _ _ _ us hl => match us, hl with | [_], _ => rfl
theorem Tx.F_Server_add (T : Tx w K mg) : DefOk K d_Server_add := T.def_ 50 rfl
theorem Tx.B_Server_add (T : Tx w K mg) : L2.Binds K (fdOf K (He.fAd K d_Server_add.at_)) ["self", "state"] [] := T.F_Server_add.bindsN fun _ _ _ _ _ _ us hl => match us, hl with | [_, _], _ => rfl
theorem Tx.F_Server_undo (T : Tx w K mg) : DefOk K d_Server_undo := T.def_ 51 rfl
theorem Tx.B_Server_undo (T : Tx w K mg) : L2.Binds K (fdOf K (He.fAd K d_Server_undo.at_)) ["self"] [] := T.F_Server_undo.bindsN fun _ _ _ _ _ _ us hl => match us, hl with | [_], _ => rfl
theorem Tx.F_Server_known_from (T : Tx w K mg) : DefOk K d_Server_known_from := T.def_ 52 rfl
theorem Tx.B_Server_known_from (T : Tx w K mg) : L2.Binds K (fdOf K (He.fAd K d_Server_known_from.at_)) ["self", "browser", "time"] [] := T.F_Server_known_from.bindsN fun _ _ _ _ _ _ us hl => match us, hl with | [_, _, _], _ => rfl
theorem Tx.F_Server_is_seen_by (T : Tx w K mg) : DefOk K d_Server_is_seen_by := T.def_ 53 rfl
theorem Tx.B_Server_is_seen_by (T : Tx w K mg) : L2.Binds K (fdOf K (He.fAd K d_Server_is_seen_by.at_)) ["self", "hand", "number", "time"] [] := T.F_Server_is_seen_by.bindsN fun _ _ _ _ _ _ us hl => match us, hl with | [_, _, _, _], _ => rfl
theorem Tx.F_Server_is_current (T : Tx w K mg) : DefOk K d_Server_is_current := T.def_ 54 rfl
theorem Tx.B_Server_is_current (T : Tx w K mg) : L2.Binds K (fdOf K (He.fAd K d_Server_is_current.at_)) ["self", "browser", "number"] [] := T.F_Server_is_current.bindsN fun _ _ _ _ _ _ us hl => match us, hl with | [_, _, _], _ => rfl
theorem Tx.F_Server_sees_code (T : Tx w K mg) : DefOk K d_Server_sees_code := T.def_ 55 rfl
theorem Tx.B_Server_sees_code (T : Tx w K mg) : L2.Binds K (fdOf K (He.fAd K d_Server_sees_code.at_)) ["self", "hand", "number"] [] := T.F_Server_sees_code.bindsN fun _ _ _ _ _ _ us hl => match us, hl with | [_, _, _], _ => rfl
theorem Tx.F_Server_sees_number (T : Tx w K mg) : DefOk K d_Server_sees_number := T.def_ 56 rfl
theorem Tx.B_Server_sees_number (T : Tx w K mg) : L2.Binds K (fdOf K (He.fAd K d_Server_sees_number.at_)) ["self", "hand", "number"] [] := T.F_Server_sees_number.bindsN fun _ _ _ _ _ _ us hl => match us, hl with | [_, _, _], _ => rfl
theorem Tx.F_Server_signed_in (T : Tx w K mg) : DefOk K d_Server_signed_in := T.def_ 57 rfl
theorem Tx.B_Server_signed_in (T : Tx w K mg) : L2.Binds K (fdOf K (He.fAd K d_Server_signed_in.at_)) ["self", "browser"] [] := T.F_Server_signed_in.bindsN fun _ _ _ _ _ _ us hl => match us, hl with | [_, _], _ => rfl
theorem Tx.F_Server_need_hand (T : Tx w K mg) : DefOk K d_Server_need_hand := T.def_ 58 rfl
theorem Tx.B_Server_need_hand (T : Tx w K mg) : L2.Binds K (fdOf K (He.fAd K d_Server_need_hand.at_)) ["self", "value", "name"] [] := T.F_Server_need_hand.bindsN fun _ _ _ _ _ _ us hl => match us, hl with | [_, _, _], _ => rfl
theorem Tx.F_Server_need_login (T : Tx w K mg) : DefOk K d_Server_need_login := T.def_ 59 rfl
theorem Tx.B_Server_need_login (T : Tx w K mg) : L2.Binds K (fdOf K (He.fAd K d_Server_need_login.at_)) ["self", "value"] [] := T.F_Server_need_login.bindsN fun _ _ _ _ _ _ us hl => match us, hl with | [_, _], _ => rfl
theorem Tx.F_Server_ask (T : Tx w K mg) : DefOk K d_Server_ask := T.def_ 60 rfl
theorem Tx.B_Server_ask (T : Tx w K mg) : L2.Binds K (fdOf K (He.fAd K d_Server_ask.at_)) ["self", "arguments"] [] := T.F_Server_ask.bindsN fun _ _ _ _ _ _ us hl => match us, hl with | [_, _], _ => rfl
theorem Tx.F_Server_scan_code (T : Tx w K mg) : DefOk K d_Server_scan_code := T.def_ 61 rfl
theorem Tx.B_Server_scan_code (T : Tx w K mg) : L2.Binds K (fdOf K (He.fAd K d_Server_scan_code.at_)) ["self", "arguments"] [] := T.F_Server_scan_code.bindsN fun _ _ _ _ _ _ us hl => match us, hl with | [_, _], _ => rfl
theorem Tx.F_Server_type_in (T : Tx w K mg) : DefOk K d_Server_type_in := T.def_ 62 rfl
theorem Tx.B_Server_type_in (T : Tx w K mg) : L2.Binds K (fdOf K (He.fAd K d_Server_type_in.at_)) ["self", "arguments"] [] := T.F_Server_type_in.bindsN fun _ _ _ _ _ _ us hl => match us, hl with | [_, _], _ => rfl
theorem Tx.F_Server_may_collect (T : Tx w K mg) : DefOk K d_Server_may_collect := T.def_ 63 rfl
theorem Tx.B_Server_may_collect (T : Tx w K mg) : L2.Binds K (fdOf K (He.fAd K d_Server_may_collect.at_)) ["self", "browser", "number"] [] := T.F_Server_may_collect.bindsN fun _ _ _ _ _ _ us hl => match us, hl with | [_, _, _], _ => rfl
theorem Tx.F_Server_collect (T : Tx w K mg) : DefOk K d_Server_collect := T.def_ 64 rfl
theorem Tx.B_Server_collect (T : Tx w K mg) : L2.Binds K (fdOf K (He.fAd K d_Server_collect.at_)) ["self", "arguments"] [] := T.F_Server_collect.bindsN fun _ _ _ _ _ _ us hl => match us, hl with | [_, _], _ => rfl
theorem Tx.F_Server_leave (T : Tx w K mg) : DefOk K d_Server_leave := T.def_ 65 rfl
theorem Tx.B_Server_leave (T : Tx w K mg) : L2.Binds K (fdOf K (He.fAd K d_Server_leave.at_)) ["self", "arguments"] [] := T.F_Server_leave.bindsN fun _ _ _ _ _ _ us hl => match us, hl with | [_, _], _ => rfl
theorem Tx.F_Server_tick (T : Tx w K mg) : DefOk K d_Server_tick := T.def_ 66 rfl
theorem Tx.B_Server_tick (T : Tx w K mg) : L2.Binds K (fdOf K (He.fAd K d_Server_tick.at_)) ["self", "arguments"] [] := T.F_Server_tick.bindsN fun _ _ _ _ _ _ us hl => match us, hl with | [_, _], _ => rfl
theorem Tx.F_Server_step (T : Tx w K mg) : DefOk K d_Server_step := T.def_ 67 rfl
theorem Tx.B_Server_step (T : Tx w K mg) : L2.Binds K (fdOf K (He.fAd K d_Server_step.at_)) ["self", "word", "arguments"] [] := T.F_Server_step.bindsN fun _ _ _ _ _ _ us hl => match us, hl with | [_, _, _], _ => rfl
theorem Tx.F_Server_told (T : Tx w K mg) : DefOk K d_Server_told := T.def_ 68 rfl
theorem Tx.B_Server_told (T : Tx w K mg) : L2.Binds K (fdOf K (He.fAd K d_Server_told.at_)) ["self"] [] := T.F_Server_told.bindsN fun _ _ _ _ _ _ us hl => match us, hl with | [_], _ => rfl
theorem Tx.F_is_step (T : Tx w K mg) : DefOk K d_is_step := T.def_ 69 rfl
theorem Tx.B_is_step (T : Tx w K mg) : L2.Binds K (fdOf K (He.fAd K d_is_step.at_)) ["value"] [] := T.F_is_step.bindsN fun _ _ _ _ _ _ us hl => match us, hl with | [_], _ => rfl
theorem Tx.F_played (T : Tx w K mg) : DefOk K d_played := T.def_ 70 rfl
theorem Tx.B_played (T : Tx w K mg) : L2.Binds K (fdOf K (He.fAd K d_played.at_)) ["rules", "history"] [] := T.F_played.bindsN fun _ _ _ _ _ _ us hl => match us, hl with | [_, _], _ => rfl
theorem Tx.F_slot_of (T : Tx w K mg) : DefOk K d_slot_of := T.def_ 71 rfl
theorem Tx.B_slot_of (T : Tx w K mg) : L2.Binds K (fdOf K (He.fAd K d_slot_of.at_)) ["value"] [] := T.F_slot_of.bindsN fun _ _ _ _ _ _ us hl => match us, hl with | [_], _ => rfl
theorem Tx.F_Desk_init (T : Tx w K mg) : DefOk K d_Desk_init := T.def_ 72 rfl
theorem Tx.B_Desk_init (T : Tx w K mg) : L2.Binds K (fdOf K (He.fAd K d_Desk_init.at_)) ["self"] [] := T.F_Desk_init.bindsN fun _ _ _ _ _ _ us hl => match us, hl with | [_], _ => rfl
theorem Tx.F_Desk_rules_in (T : Tx w K mg) : DefOk K d_Desk_rules_in := T.def_ 73 rfl
theorem Tx.B_Desk_rules_in (T : Tx w K mg) : L2.Binds K (fdOf K (He.fAd K d_Desk_rules_in.at_)) ["self", "value"] [] := T.F_Desk_rules_in.bindsN fun _ _ _ _ _ _ us hl => match us, hl with | [_, _], _ => rfl
theorem Tx.F_Desk_server_in (T : Tx w K mg) : DefOk K d_Desk_server_in := T.def_ 74 rfl
theorem Tx.B_Desk_server_in (T : Tx w K mg) : L2.Binds K (fdOf K (He.fAd K d_Desk_server_in.at_)) ["self", "value"] [] := T.F_Desk_server_in.bindsN fun _ _ _ _ _ _ us hl => match us, hl with | [_, _], _ => rfl
theorem Tx.F_Desk_call (T : Tx w K mg) : DefOk K d_Desk_call := T.def_ 75 rfl
theorem Tx.B_Desk_call (T : Tx w K mg) : L2.Binds K (fdOf K (He.fAd K d_Desk_call.at_)) ["self", "door", "arguments"] [] := T.F_Desk_call.bindsN fun _ _ _ _ _ _ us hl => match us, hl with | [_, _, _], _ => rfl
theorem Tx.F_about_rules (T : Tx w K mg) : DefOk K d_about_rules := T.def_ 76 rfl
theorem Tx.B_about_rules (T : Tx w K mg) : L2.Binds K (fdOf K (He.fAd K d_about_rules.at_)) ["door", "rules", "arguments"] [] := T.F_about_rules.bindsN fun _ _ _ _ _ _ us hl => match us, hl with | [_, _, _], _ => rfl
theorem Tx.F_about_server (T : Tx w K mg) : DefOk K d_about_server := T.def_ 77 rfl
theorem Tx.B_about_server (T : Tx w K mg) : L2.Binds K (fdOf K (He.fAd K d_about_server.at_)) ["door", "server", "arguments"] [] := T.F_about_server.bindsN fun _ _ _ _ _ _ us hl => match us, hl with | [_, _, _], _ => rfl
theorem Tx.F_answer (T : Tx w K mg) : DefOk K d_answer := T.def_ 78 rfl
theorem Tx.B_answer (T : Tx w K mg) : L2.Binds K (fdOf K (He.fAd K d_answer.at_)) ["desk", "octets"] [] := T.F_answer.bindsN fun _ _ _ _ _ _ us hl => match us, hl with | [_, _], _ => rfl
theorem Tx.F_answers (T : Tx w K mg) : DefOk K d_answers := T.def_ 79 rfl
theorem Tx.B_answers (T : Tx w K mg) : L2.Binds K (fdOf K (He.fAd K d_answers.at_)) ["calls"] [] := T.F_answers.bindsN fun _ _ _ _ _ _ us hl => match us, hl with | [_], _ => rfl
end
end Sl
/-! ## SlEv -/
namespace Sl
open PySem PySem.Spec PyProof.Rows L2 Evl
/-! ### what evaluates to something of which P holds -/
def Eg (te : TE) (σ : L2.St) (F : Hp) (P : V → Hp → Prop) : Prop := ∀ H1, Ex F H1 → ∀ Q : VK, (∀ v H2, Ex H1 H2 → P v H2 → Q v H2) → te σ H1 Q
def EgA (ta : TA) (σ : L2.St) (F : Hp) (P : List V → Hp → Prop) : Prop := ∀ H1, Ex F H1 → ∀ Q : List V → Hp → Prop, (∀ vs H2, Ex H1 H2 → P vs H2 → Q vs H2) → ta σ H1 Q
def SpG (sp : Sp) (vs : List V) (F : Hp) (P : V → Hp → Prop) : Prop := ∀ H1, Ex F H1 → ∀ (Q : VK) (E : XK), (∀ v H2, Ex H1 H2 → P v H2 → Q v H2) → sp vs H1 Q E
/-- what stays true when more is known -/
def Mo (P : V → Hp → Prop) : Prop := ∀ v H H', Ex H H' → P v H → P v H'
section
variable {K : PySem.W.Frag} {σ : L2.St} {F H : Hp} {ta tb te to : TE} {t u : TT} {x y z v : V} {r : R2} {P : V → Hp → Prop}
theorem Eg.mono (e : Ex F H) (h : Eg te σ F P) : Eg te σ H P := fun H1 a Q q => h H1 (e.trans a) Q q
theorem eg_ev (h : Ev te σ F v) (hp : ∀ H1, Ex F H1 → P v H1) : Eg te σ F P := fun H1 e Q q => h H1 e _ fun H2 e2 => q v H2 e2 (hp H2 (e.trans e2))
theorem ev_eg (h : Eg te σ F fun x _ => x = v) : Ev te σ F v := fun H1 e Q q => h H1 e Q fun x H2 e2 hx => by
  subst hx
  exact q H2 e2
theorem Eg.weak {P' : V → Hp → Prop} (h : Eg te σ F P) (hp : ∀ v H1, Ex F H1 → P v H1 → P' v H1) : Eg te σ F P' := fun H1 e Q q => h H1 e Q fun v H2 e2 p => q v H2 e2 (hp v H2 (e.trans e2) p)
/-- a field -/
theorem ev_fld {a C dx : Addr} {fs : List (Str × V)} {f : Str} (h : Ev te σ F (.ref a)) (ho : F a = some (.ins C dx fs)) (hc : Cls K C) (hn : NoAttr K C f) (hl : fs.lookup f = some v) : Ev (tFld K te f) σ F v := fun H1 e Q q =>
  h H1 e _ fun H2 e2 => ⟨a, C, dx, fs, v, rfl, e2 _ _ (e _ _ ho), hc, hn, hl, q H2 e2⟩
/-- a method without arguments besides self; with some -/
theorem ev_meth {a C dx : Addr} {fs : List (Str × V)} {m : Str} {sp : Sp} {dvs vs : List V} {E : XK} {tr : TA} (h : Ev to σ F (.ref a)) (ho : F a = some (.ins C dx fs)) (hl : fs.lookup m = none) (ha : EvA tr σ F vs) (hs : SpG sp (.ref a :: (vs ++ dvs)) F fun x _ => x = v) :
    Ev (tMeth C m sp dvs E to tr) σ F v := fun H1 e Q q => h H1 e _ fun H2 e2 => ⟨a, dx, fs, rfl, e2 _ _ (e _ _ ho), hl, ha H2 (e.trans e2) _ fun H3 e3 => hs H3 ((e.trans e2).trans e3) _ _ fun x H4 e4 hx => by
      subst hx
      exact q H4 ((e2.trans e3).trans e4)⟩
theorem eg_meth {a C dx : Addr} {fs : List (Str × V)} {m : Str} {sp : Sp} {dvs vs : List V} {E : XK} {tr : TA} (h : Ev to σ F (.ref a)) (ho : F a = some (.ins C dx fs)) (hl : fs.lookup m = none) (ha : EvA tr σ F vs) (hs : SpG sp (.ref a :: (vs ++ dvs)) F P) :
    Eg (tMeth C m sp dvs E to tr) σ F P := fun H1 e Q q => h H1 e _ fun H2 e2 => ⟨a, dx, fs, rfl, e2 _ _ (e _ _ ho), hl, ha H2 (e.trans e2) _ fun H3 e3 => hs H3 ((e.trans e2).trans e3) _ _ fun x H4 e4 hx => q x H4 ((e2.trans e3).trans e4) hx⟩
theorem ev_callG {sp : Sp} {dvs vs : List V} {E : XK} {ta : TA} (ha : EvA ta σ F vs) (hs : SpG sp (vs ++ dvs) F fun x _ => x = v) : Ev (tCall sp dvs E ta) σ F v := fun H1 e Q q =>
  ha H1 e _ fun H2 e2 => hs H2 (e.trans e2) _ _ fun x H3 e3 hx => by
    subst hx
    exact q H3 (e2.trans e3)
theorem eg_call {sp : Sp} {dvs vs : List V} {E : XK} {ta : TA} (ha : EvA ta σ F vs) (hs : SpG sp (vs ++ dvs) F P) : Eg (tCall sp dvs E ta) σ F P := fun H1 e Q q =>
  ha H1 e _ fun H2 e2 => hs H2 (e.trans e2) _ _ fun x H3 e3 hx => q x H3 (e2.trans e3) hx
/-- values joined by or, and where the answer is known ahead -/
theorem ev_isN (h : Ev ta σ F x) : Ev (tOp (fun x y H Q => y = .non ∧ Q (.bl (decide (x = .non))) H) ta (tC .non)) σ F (.bl (decide (x = .non))) := ev_op h ev_c fun H1 _ _ q => ⟨rfl, q H1 (Ex.refl H1)⟩
theorem ev_notN (h : Ev ta σ F x) : Ev (tOp (fun x y H Q => y = .non ∧ Q (.bl (!decide (x = .non))) H) ta (tC .non)) σ F (.bl (!decide (x = .non))) := ev_op h ev_c fun H1 _ _ q => ⟨rfl, q H1 (Ex.refl H1)⟩
theorem ev_int {g : Int → Int → V} {i j : Int} (ha : Ev ta σ F (.int i)) (hb : Ev tb σ F (.int j)) : Ev (tOp (rI0 g) ta tb) σ F (g i j) := ev_op ha hb rv_I0
theorem ev_sc (ha : Ev ta σ F x) (hb : Ev tb σ F y) (h : scal x y = true) : Ev (tOp rEq ta tb) σ F (.bl (decide (x = y))) := ev_op ha hb (rv_eq h)
theorem ev_scn (ha : Ev ta σ F x) (hb : Ev tb σ F y) (h : scal x y = true) : Ev (tOp rNe ta tb) σ F (.bl (!decide (x = y))) := ev_op ha hb (rv_ne h)
theorem ev_iteT (ht : EvT t σ F true) (ha : Ev ta σ F v) : Ev (tIf t ta tb) σ F v := ev_if ht (fun _ => ha) fun h => Bool.noConfusion h
theorem ev_iteF (ht : EvT t σ F false) (hb : Ev tb σ F v) : Ev (tIf t ta tb) σ F v := ev_if ht (fun h => Bool.noConfusion h) fun _ => hb
theorem eg_if {b : Bool} (ht : EvT t σ F b) (h1 : b = true → Eg ta σ F P) (h2 : b = false → Eg tb σ F P) : Eg (tIf t ta tb) σ F P := fun H1 e Q q => ht H1 e _ fun H2 e2 => by
  cases b with
  | true => exact iteT (h1 rfl H2 (e.trans e2) _ fun v H3 e3 p => q v H3 (e2.trans e3) p)
  | false => exact iteF (h2 rfl H2 (e.trans e2) _ fun v H3 e3 p => q v H3 (e2.trans e3) p)
/-! ### arguments -/
theorem ega_nil : EgA tNil σ F fun vs _ => vs = [] := fun H1 _ Q q => q [] H1 (Ex.refl H1) rfl
theorem ega_ev {ta : TA} {vs : List V} (h : EvA ta σ F vs) : EgA ta σ F fun us _ => us = vs := fun H1 e Q q => h H1 e _ fun H2 e2 => q vs H2 e2 rfl
theorem ega_cons {tr : TA} {R : List V → Hp → Prop} (h : Eg te σ F P) (m : Mo P) (hr : EgA tr σ F R) : EgA (tCons te tr) σ F fun vs H => ∃ v r, vs = v :: r ∧ P v H ∧ R r H := fun H1 e Q q =>
  h H1 e _ fun v H2 e2 p => hr H2 (e.trans e2) _ fun us H3 e3 p3 => q (v :: us) H3 (e2.trans e3) ⟨v, us, rfl, m _ _ _ e3 p, p3⟩
theorem eg_callA {sp : Sp} {dvs : List V} {E : XK} {ta : TA} {R : List V → Hp → Prop} (ha : EgA ta σ F R) (hs : ∀ vs H1, Ex F H1 → R vs H1 → SpG sp (vs ++ dvs) H1 P) : Eg (tCall sp dvs E ta) σ F P := fun H1 e Q q =>
  ha H1 e _ fun vs H2 e2 p => hs vs H2 (e.trans e2) p H2 (Ex.refl H2) _ _ fun x H3 e3 hx => q x H3 (e2.trans e3) hx
theorem eg_methA {a C dx : Addr} {fs : List (Str × V)} {m : Str} {sp : Sp} {dvs : List V} {E : XK} {tr : TA} {R : List V → Hp → Prop} (h : Ev to σ F (.ref a)) (ho : F a = some (.ins C dx fs)) (hl : fs.lookup m = none) (ha : EgA tr σ F R)
    (hs : ∀ vs H1, Ex F H1 → R vs H1 → SpG sp (.ref a :: (vs ++ dvs)) H1 P) : Eg (tMeth C m sp dvs E to tr) σ F P := fun H1 e Q q =>
  h H1 e _ fun H2 e2 => ⟨a, dx, fs, rfl, e2 _ _ (e _ _ ho), hl, ha H2 (e.trans e2) _ fun vs H3 e3 p => hs vs H3 ((e.trans e2).trans e3) p H3 (Ex.refl H3) _ _ fun x H4 e4 hx => q x H4 ((e2.trans e3).trans e4) hx⟩
/-- a new instance: its __init__'s promise leaves it with these fields -/
def spFields (C : Addr) (n : Nat) (mk : List V → List (Str × V)) : Sp := fun vs H Q _ => ∃ (p dx : Addr) (us : List V), vs = .ref p :: us ∧ us.length = n ∧ H p = some (.ins C dx []) ∧ ∀ H' : Hp, H' p = some (.ins C dx (mk us)) → (∀ b o, H b = some o → b ≠ p → H' b = some o) → Q .non H'
theorem spFields_len {C : Addr} {n : Nat} {mk : List V → List (Str × V)} {vs : List V} {Q : VK} {E : XK} (h : spFields C n mk vs H Q E) : vs.length = n + 1 := by
  obtain ⟨p, dx, us, rfl, hl, _⟩ := h
  exact congrArg Nat.succ hl
theorem eg_make {C : Addr} {n : Nat} {mk : List V → List (Str × V)} {dvs : List V} {E : XK} {ta : TA} {R : List V → Hp → Prop} (ha : EgA ta σ F R) (hn : ∀ vs H1, R vs H1 → (vs ++ dvs).length = n) : Eg (tMake C (spFields C n mk) dvs E ta) σ F fun v H => ∃ p dx vs, v = .ref p ∧ H p = some (.ins C dx (mk (vs ++ dvs))) ∧ ∃ H0, Ex F H0 ∧ Ex H0 H ∧ R vs H0 := fun H1 e Q q =>
  ha H1 e _ fun vs H2 e2 p => fun x dx nx nd ne => ⟨x, dx, vs ++ dvs, rfl, hn vs H2 p, upd_same, fun H3 h3 k => ⟨rfl, q _ H3 (fun b o hb => Same.made nx nd k b o (e2 b o hb)) ⟨x, dx, vs, rfl, h3, H2, e.trans e2, Same.made nx nd k, p⟩⟩⟩
end
/-! ### statements, from what F knows -/
def Pr (t : TS) (D : Ends) (σ : L2.St) (F : Hp) : Prop := ∀ H, Ex F H → t D σ H
section
variable {K : PySem.W.Frag} {σ : L2.St} {F H : Hp} {ta tb te to : TE} {t : TT} {x y z v : V} {D : Ends} {tu tw tz : TS} {P : V → Hp → Prop}
theorem Pr.mono (e : Ex F H) (h : Pr tu D σ F) : Pr tu D σ H := fun H1 a => h H1 (e.trans a)
theorem pr_asg {i : Nat} (h : Ev te σ F v) (k : Pr tz D (σ.set i (some v)) F) : Pr (tSeq (tAsg te (gName i)) tz) D σ F := fun H e => h H e _ fun H1 e1 => k H1 (e.trans e1)
theorem pr_asgG {i : Nat} (h : Eg te σ F P) (k : ∀ v H1, Ex F H1 → P v H1 → Pr tz D (σ.set i (some v)) H1) : Pr (tSeq (tAsg te (gName i)) tz) D σ F := fun H e => h H e _ fun v H1 e1 p => k v H1 (e.trans e1) p H1 (Ex.refl H1)
theorem pr_when {b : Bool} (h : EvT t σ F b) (h1 : b = true → Pr tu { D with nx := tz D } σ F) (h2 : b = false → Pr tz D σ F) : Pr (tSeq (tIfS t tu tNext) tz) D σ F := fun H e => h H e _ fun H1 e1 => by
  cases b with
  | true => exact iteT (h1 rfl H1 (e.trans e1))
  | false => exact iteF (h2 rfl H1 (e.trans e1))
theorem pr_if {b : Bool} (h : EvT t σ F b) (h1 : b = true → Pr tu D σ F) (h2 : b = false → Pr tw D σ F) : Pr (tIfS t tu tw) D σ F := fun H e => h H e _ fun H1 e1 => by
  cases b with
  | true => exact iteT (h1 rfl H1 (e.trans e1))
  | false => exact iteF (h2 rfl H1 (e.trans e1))
theorem pr_ret (h : Ev te σ F v) (k : ∀ H, Ex F H → D.rt v H) : Pr (tRet te) D σ F := fun H e => h H e _ fun H1 e1 => k H1 (e.trans e1)
theorem pr_retG (h : Eg te σ F P) (k : ∀ v H, Ex F H → P v H → D.rt v H) : Pr (tRet te) D σ F := fun H e => h H e _ fun v H1 e1 p => k v H1 (e.trans e1) p
theorem pr_par {i j : Nat} {ta : TA} {v w : V} (h : EvA ta σ F [v, w]) (k : Pr tz D ((σ.set i (some v)).set j (some w)) F) : Pr (tSeq (tPar i j ta) tz) D σ F := fun H e => h H e _ fun H1 e1 => ⟨v, w, rfl, k H1 (e.trans e1)⟩
end
section
variable {P : Program} {w : World} {K : PySem.W.Frag} {mg : Str → Option Value} {base : Heap}
/-- a def's promise, by its body: nothing is let out -/
theorem mkOk {d : He.DefD} {N ps : List Str} {k : Nat} {sp : Sp} (F : DefOk K d) (hk : d.kws K = [] ∧ d.dvs K = []) (S : FnScope N ps d.scope) (len : ∀ vs H Q E, sp vs H Q E → vs.length = ps.length)
    (hbody : ∀ (cdv : Value) (A : Around) (outer : List Env) (s : Shared) (H : Hp) (vs : List V) (Q : VK) (E : XK), Room k (A.deeper (envOfC d.qual d.scope s.heap.objs.size (He.fAd K d.at_) cdv)) → sp vs H Q E →
      ∃ t, PSs (cxOf CX0 P w K mg base N d.qual d.scope (He.fAd K d.at_) cdv A outer s H E).nox d.body t ∧ t { nx := fun _ H' => Q .non H', rt := Q } (L2.start N vs) H) :
    FnOk P w K mg base CX0 (k + 1) (He.fAd K d.at_) (fdOf K (He.fAd K d.at_)) ps sp :=
  FunD.ok F S len fun cdv A outer s H vs Q E hr h => by
    obtain ⟨t, ht, q⟩ := hbody cdv A outer s H vs Q E hr h
    exact ⟨t, ht.nox, q⟩
/-- a def that may let an error out -/
theorem mkOkX {d : He.DefD} {N ps : List Str} {k : Nat} {sp : Sp} (F : DefOk K d) (S : FnScope N ps d.scope) (len : ∀ vs H Q E, sp vs H Q E → vs.length = ps.length)
    (hbody : ∀ (cdv : Value) (A : Around) (outer : List Env) (s : Shared) (H : Hp) (vs : List V) (Q : VK) (E : XK), Room k (A.deeper (envOfC d.qual d.scope s.heap.objs.size (He.fAd K d.at_) cdv)) → sp vs H Q E →
      ∃ t, PSs (cxOf (L2N.CX P w) P w K mg base N d.qual d.scope (He.fAd K d.at_) cdv A outer s H E) d.body t ∧ t { nx := fun _ H' => Q .non H', rt := Q } (L2.start N vs) H) :
    FnOk P w K mg base (L2N.CX P w) (k + 1) (He.fAd K d.at_) (fdOf K (He.fAd K d.at_)) ps sp := FunD.ok F S len hbody
end
end Sl
/-! ## SlTac -/
namespace Sl
open PySem PySem.Spec PyProof.Rows L2 Evl
def isNoat (C f : Str) : He.Fa → Bool
  | .noat C' f' => decide (C = C') && decide (f = f')
  | _ => false
def isCls (C : Str) : He.Fa → Bool
  | .cls C' => decide (C = C')
  | _ => false
section
variable {w : World} {K : PySem.W.Frag} {mg : Str → Option Value}
theorem Tx.na (T : Tx w K mg) {C f : Str} (h : fa.any (isNoat C f) = true) : NoAttr K (He.ga K C) f := by
  obtain ⟨x, hx, hb⟩ := List.any_eq_true.mp h
  obtain ⟨i, hi, e⟩ := List.mem_iff_getElem.mp hx
  have c := T.sd.fact i (f := x) (by rw [List.getElem?_eq_getElem hi, e])
  cases x with
  | noat C' f' =>
    obtain ⟨h1, h2⟩ := Bool.and_eq_true_iff.mp (show (decide (C = C') && decide (f = f')) = true from hb)
    obtain rfl := of_decide_eq_true h1
    obtain rfl := of_decide_eq_true h2
    exact He.noat_ok c
  | _ => cases hb
theorem Tx.cl (T : Tx w K mg) {C : Str} (h : fa.any (isCls C) = true) : Cls K (He.ga K C) := by
  obtain ⟨x, hx, hb⟩ := List.any_eq_true.mp h
  obtain ⟨i, hi, e⟩ := List.mem_iff_getElem.mp hx
  have c := T.sd.fact i (f := x) (by rw [List.getElem?_eq_getElem hi, e])
  cases x with
  | cls C' =>
    obtain rfl := of_decide_eq_true (show decide (C = C') = true from hb)
    exact He.cls_ok c
  | _ => cases hb
end
abbrev SR := R7239g.Spec.Rules
def optV : Option Nat → V
  | some n => .int (n : Int)
  | none => .non
abbrev rF (r : SR) : List (Str × V) := [("owners", .int r.owners), ("delay", .int r.delay), ("life", optV r.life), ("number", optV r.number), ("grant", .int r.grant), ("session", optV r.session), ("bound", .bl r.bound), ("near", .bl r.near), ("hello", .bl r.hello), ("once", .bl r.once)]
/-- rules as newRules lets them be -/
structure ROk (r : SR) : Prop where
  o1 : 1 ≤ r.owners
  o2 : r.owners ≤ 3
  d1 : 1 ≤ r.delay
  d2 : r.delay ≤ 20
  l1 : ∀ n, r.life = some n → 1 ≤ n ∧ n ≤ 50
  n1 : ∀ n, r.number = some n → 1 ≤ n ∧ n ≤ 50
  g1 : 1 ≤ r.grant
  g2 : r.grant ≤ 20
  s1 : ∀ n, r.session = some n → 1 ≤ n ∧ n ≤ 100
/-- the rules r stand at a -/
def RulesAt (K : PySem.W.Frag) (H : Hp) (a : Addr) (r : SR) : Prop := ROk r ∧ ∃ dx, H a = some (.ins (He.ga K "Rules") dx (rF r))
theorem RulesAt.mono {K : PySem.W.Frag} {H H' : Hp} {a : Addr} {r : SR} (e : Ex H H') (h : RulesAt K H a r) : RulesAt K H' a r := by
  obtain ⟨o, dx, h⟩ := h
  exact ⟨o, dx, e _ _ h⟩
local macro_rules
  | `(tactic| walk_at "ev") => `(tactic| first
    | exact ev_c
    | exact ev_var rfl
    | (refine' ev_fld ?k1 ?k2 ?k3 ?k4 ?k5; (case k1 => walk_at "ev"); (case k2 => assumption); (case k3 => exact Tx.cl (by assumption) rfl); (case k4 => exact Tx.na (by assumption) rfl); (case k5 => rfl))
    | (refine' ev_isN ?k1; (case k1 => walk_at "ev"))
    | (refine' ev_notN ?k1; (case k1 => walk_at "ev"))
    | (refine' ev_int ?k1 ?k2; (case k1 => walk_at "ev"); (case k2 => walk_at "ev"))
    | (refine' ev_sc ?k1 ?k2 ?k3; (case k1 => walk_at "ev"); (case k2 => walk_at "ev"); (case k3 => rfl))
    | (refine' ev_scn ?k1 ?k2 ?k3; (case k1 => walk_at "ev"); (case k2 => walk_at "ev"); (case k3 => rfl))
    | (refine' ev_notV ?k1; (case k1 => walk_at "ev"))
    | (refine' ev_andV ?k1 ?k2; (case k1 => walk_at "ev"); (case k2 => intro _; walk_at "ev"))
    | (refine' ev_orV ?k1 ?k2; (case k1 => walk_at "ev"); (case k2 => intro _; walk_at "ev"))
    | (refine' et_test ?k1; (case k1 => walk_at "ev"))
    | (refine' et_B ?k1; (case k1 => walk_at "ev"))
    | (refine' et_and ?k1 ?k2; (case k1 => walk_at "ev"); (case k2 => intro _; walk_at "ev"))
    | (refine' et_or ?k1 ?k2; (case k1 => walk_at "ev"); (case k2 => intro _; walk_at "ev"))
    | (refine' et_not ?k1; (case k1 => walk_at "ev"))
    | exact ea_nil
    | (refine' ea_cons ?k1 ?k2; (case k1 => walk_at "ev"); (case k2 => walk_at "ev")))
def spKeying (K : PySem.W.Frag) : Sp := fun vs H Q _ => ∃ (a : Addr) (r : SR), vs = [.ref a] ∧ RulesAt K H a r ∧ ∀ H', Ex H H' → Q (.int (R7239g.Spec.typeMost r : Int)) H'
section
variable {P : Program} {w : World} {K : PySem.W.Frag} {mg : Str → Option Value} {base : Heap}
theorem sc_keying : FnScope ["self"] ["self"] d_Rules_keying.scope := ⟨rfl, rfl, rfl, by decide +kernel, rfl, by decide +kernel, by decide +kernel⟩
theorem ok_keying (T : Tx w K mg) : FnOk P w K mg base CX0 1 (He.ma K (He.ga K "Rules") "keying") (fdOf K (He.ma K (He.ga K "Rules") "keying")) ["self"] (spKeying K) := by
  refine mkOk T.F_Rules_keying ⟨rfl, rfl⟩ sc_keying (fun vs H Q E h => ?_) (fun cdv A outer s H vs Q E hr h => ⟨_, pss_one (ps_ret (pe_ifExp (pt_cmpR op_isN (pe_fld (pv 0) rfl) pe_non (nomark _)) pe_int (pe_op op_sub (pe_fld (pv 0) rfl) pe_int))), ?_⟩)
  · obtain ⟨a, r, rfl, _⟩ := h; rfl
  · obtain ⟨a, ⟨o, dl, lf, nm, g, se, b, ne, he, on⟩, rfl, ⟨rk, dx, ha⟩, q⟩ := h
    refine pr_ret (F := H) (v := .int (R7239g.Spec.typeMost _ : Int)) ?_ q H (Ex.refl H)
    cases nm with
    | none => exact ev_iteT (et_is (by walk_at "ev") (by rfl)) ev_c
    | some n =>
      refine ev_is (ev_iteF (et_is (by walk_at "ev") (by rfl)) (by walk_at "ev")) ?_
      show V.int _ = V.int _
      have := (rk.n1 n rfl).1
      show V.int _ = V.int ((n - 1 : Nat) : Int)
      congr 1; omega
end
end Sl
/-! ## SlMore -/
namespace Sl
open PySem PySem.Spec PyProof.Rows L2 Evl
/-! ### what `more` says -/
theorem eqO_of {x y : Option (Option Value)} (h : He.eqO x y = true) : x = y := of_decide_eq_true h
structure RefC (K : PySem.W.Frag) (C : Addr) : Prop where
  cls : ∃ nm q N bs sn sub ab col dd k0 k1 k2 k3 k5, K.lookup C = some (excClassObj nm q C N bs ESX.exTail true sn sub ab col dd k0 k1 k2 k3 k5 "Exception.__new__")
  sa : PySem.W.findIn K (.ref C) "__setattr__" = some (some (.builtin "object.__setattr__"))
  exC : PySem.W.subIn K (.ref C) (.type "BaseException") = some true
  tyC : PySem.W.typeIn K (.ref C) = some (.type "type")
  kC : PySem.W.keepIn K (.ref C) = true
theorem excOwn_cls {K : PySem.W.Frag} {C : Addr} (h : excOwnB K C = true) : ∃ nm q N bs sn sub ab col dd k0 k1 k2 k3 k5, K.lookup C = some (excClassObj nm q C N bs ESX.exTail true sn sub ab col dd k0 k1 k2 k3 k5 "Exception.__new__") := by
  unfold excOwnB at h
  split at h
  · rename_i t dd cd sl e
    simp only [Bool.and_eq_true, decide_eq_true_eq, Bool.not_eq_true'] at h
    obtain ⟨h1, h2, h3, h4, h5⟩ := h
    split at h5
    · rename_i k0 k1 k2 k3 n k5 e2
      have h6 := of_decide_eq_true h5
      obtain ⟨nm, bs, mro, ns, qn, hd, sn, sb, ab, col, del⟩ := cd
      obtain ⟨sl⟩ := sl
      simp only at h2 h3 h4 e2
      subst h1; subst h2; subst h3; subst h4; subst h6; subst e2
      exact ⟨nm, qn, ns, bs, sn, sb, ab, col, dd, k0, k1, k2, k3, k5, e⟩
    · cases h5
  · cases h
section
variable {w : World} {K : PySem.W.Frag} {mg : Str → Option Value}
theorem Tx.refc (T : Tx w K mg) : RefC K (He.ga K "Refused") := by
  have h := T.mo
  unfold more at h
  simp only [Bool.and_eq_true, decide_eq_true_eq] at h
  obtain ⟨hA, -, -⟩ := h
  exact ⟨excOwn_cls hA.1, eqO_of hA.2.2.2.2.2.2.2.1, hA.2.1, hA.2.2.1, hA.2.2.2.1⟩
structure RefM (K : PySem.W.Frag) (C f : Addr) : Prop where
  exm : PySem.W.exmOne K (.ref C) (.ref C) = some true
  ga : PySem.W.findIn K (.ref C) "__getattribute__" = some (some (.builtin "BaseException.__getattribute__"))
  gt : PySem.W.findIn K (.ref C) "__getattr__" = some none
  mn : PySem.W.findIn K (.ref C) "manner" = some none
  ms : PySem.W.findIn K (.ref C) "message" = some none
  ini : PySem.W.findIn K (.ref C) "__init__" = some (some (.ref f))
  fn : PySem.W.typeIn K (.ref f) = some (.type "function")
  dct : PySem.W.hasDictIn K C = true
  isc : PySem.W.isClsIn K C = true
theorem Tx.refm (T : Tx w K mg) : RefM K (He.ga K "Refused") (He.ma K (He.ga K "Refused") "__init__") := by
  have h := T.mo
  unfold more at h
  simp only [Bool.and_eq_true, decide_eq_true_eq] at h
  obtain ⟨⟨-, -, -, -, h1, h2, h3, -, h5, h6, h7, h8, h9, h10⟩, -, -⟩ := h
  exact ⟨h3, eqO_of h5, eqO_of h6, eqO_of h7, eqO_of h8, eqO_of h9, h10, h1, h2⟩
theorem Tx.noth (T : Tx w K mg) : PySem.W.makesIn K (He.ga K "Nothing") = true ∧ PySem.W.findIn K (.ref (He.ga K "Nothing")) "__init__" = some (some (.builtin "object.__init__")) := by
  have h := T.mo
  unfold more at h
  simp only [Bool.and_eq_true] at h
  exact ⟨h.2.1.1, eqO_of h.2.1.2⟩
theorem Tx.isos (T : Tx w K mg) : ((["Nothing", "Record"].all fun x => kinds.all fun t => isoB K (.ref (He.ga K x)) (.type t) false) = true) ∧
    ((["int", "bool", "str", "list", "NoneType"].all fun t => isoB K (.type t) (.ref (He.ga K "Record")) false) = true) ∧ isoB K (.ref (He.ga K "Nothing")) (.ref (He.ga K "Record")) false = true ∧ isoB K (.ref (He.ga K "Record")) (.ref (He.ga K "Record")) true = true := by
  have h := T.mo
  unfold more at h
  obtain ⟨-, h1⟩ := Bool.and_eq_true_iff.mp h
  obtain ⟨-, h2⟩ := Bool.and_eq_true_iff.mp h1
  obtain ⟨h3, h4⟩ := Bool.and_eq_true_iff.mp h2
  obtain ⟨h5, h6⟩ := Bool.and_eq_true_iff.mp h4
  obtain ⟨h7, h8⟩ := Bool.and_eq_true_iff.mp h6
  obtain ⟨h9, -⟩ := Bool.and_eq_true_iff.mp h8
  exact ⟨h3, h5, h7, h9⟩
theorem Tx.tups (T : Tx w K mg) : He.tupB K "NOT_PLAIN" [.int 96, .int 124] = true ∧ He.tupB K "HABITS" [.str "bound", .str "near", .str "hello", .str "once"] = true ∧ He.tupB K "STEPS" [.str "ask", .str "scan", .str "type", .str "collect", .str "leave", .str "tick"] = true ∧
    He.tupB K "MANY" [.int 2, .int 1, .int 1, .int 1, .int 1, .int 1, .int 4, .int 2, .int 3, .int 2, .int 3, .int 3, .int 3, .int 2, .int 2, .int 1, .int 1, .int 2, .int 2, .int 2] = true ∧
    He.valsB K (He.ga K "SIZES") [("ask", .int 1), ("scan", .int 2), ("type", .int 2), ("collect", .int 2), ("leave", .int 1), ("tick", .int 1)] = true ∧ kin K "Nothing" = true ∧ kin K "Record" = true := by
  have h := T.mo
  unfold more at h
  have a0 := (Bool.and_eq_true_iff.mp h).2
  have a1 := (Bool.and_eq_true_iff.mp a0).2
  have a2 := (Bool.and_eq_true_iff.mp a1).2
  have a3 := (Bool.and_eq_true_iff.mp a2).2
  have a4 := (Bool.and_eq_true_iff.mp a3).2
  have a45 := (Bool.and_eq_true_iff.mp a4).2
  obtain ⟨h1, a5⟩ := Bool.and_eq_true_iff.mp a45
  obtain ⟨h2, a6⟩ := Bool.and_eq_true_iff.mp a5
  obtain ⟨h3, a7⟩ := Bool.and_eq_true_iff.mp a6
  obtain ⟨h4, a8⟩ := Bool.and_eq_true_iff.mp a7
  obtain ⟨h5, a9⟩ := Bool.and_eq_true_iff.mp a8
  have h6 := List.all_eq_true.mp a9 "Nothing" (List.mem_cons_self ..)
  have h7 := List.all_eq_true.mp a9 "Record" (List.mem_cons_of_mem _ (List.mem_cons_self ..))
  exact ⟨h1, h2, h3, h4, h5, h6, h7⟩
theorem Tx.tyR (T : Tx w K mg) {H : Hp} {a dx : Addr} {x : Str} {fs : List (Str × V)} (hk : kin K x = true) (hc : Cls K (He.ga K x)) (e : H a = some (.ins (He.ga K x) dx fs)) : TyX K H (.ref a) (.ref (He.ga K x)) := by
  unfold kin at hk
  simp only [Bool.and_eq_true, decide_eq_true_eq] at hk
  exact .base (.ins e hc (eqO_of hk.1) (eqO_of hk.2.1) hk.2.2.1 hk.2.2.2)
end
/-! ### C() where C has no __init__ of its own -/
def tNew0 (C : Addr) : TE := fun _ H Q => ∀ x dx, H x = none → H dx = none → dx ≠ x → Q (.ref x) (upd (upd H dx (.own x)) x (.ins C dx []))
section
variable {X : Cx} {C : Addr}
theorem run_new0 {pins : List (Addr × Obj)} {σ : L2.St} {H : Hp} {s : Shared} {Q : VK} (hm : PySem.W.makesIn X.K C = true) (hi : PySem.W.findIn X.K (.ref C) "__init__" = some (some (.builtin "object.__init__"))) (I : Inv X pins σ H s) (h : tNew0 C σ H Q) :
    wpAny (model X.prog X.w) X.A (call (.ref C) []) (EP X pins σ Q) X.xe s := by
  have z := h (s.heap.objs.size + 1) s.heap.objs.size (I.hok.fresh (Nat.le_succ _)) (I.hok.fresh (Nat.le_refl _)) (Nat.ne_of_lt (Nat.lt_succ_self _))
  have J := Inv.made (C := C) I
  refine wpAny_call (make_map0 I.kIn hm hi (fun self => PySem.W.Looks.of_pure (PySem.W.oi_bind self)) ?_)
  have Y := PySem.W.makes_of (M := model X.prog X.w) I.kIn hm
  obtain ⟨mA, O, _⟩ := ins_get J.hok (a := s.heap.objs.size + 1) (C := C) (dx := s.heap.objs.size) (fs := []) upd_same
  obtain ⟨od, q, _⟩ := O.look
  have t1 : PySem.W.Looks (model X.prog X.w) ((s.heap.push PySem.W.emptyDict).push (PySem.W.instObj C s.heap.objs.size)) (typeOf (.ref (s.heap.objs.size + 1))) (.ref C) := q.type
  have t2 : PySem.W.Looks (model X.prog X.w) ((s.heap.push PySem.W.emptyDict).push (PySem.W.instObj C s.heap.objs.size)) (isInstance (.ref (s.heap.objs.size + 1)) (.type "object")) true := t1.andThen (Y.top.keeps (h' := (s.heap.push PySem.W.emptyDict).push (PySem.W.instObj C s.heap.objs.size)) fun b o e => Heap.get?_push_of_some _ (Heap.get?_push_of_some _ e))
  refine codeAny_call_builtin PySem.W.oi_plain PySem.W.entry_oi (@PySem.W.check_slot (model X.prog X.w) _ _ _ "object.__init__" "object" "__init__" (.ref (s.heap.objs.size + 1)) [] [] _ PySem.W.oi_kind PySem.W.oi_split t2 (PySem.W.oi_args (.ref (s.heap.objs.size + 1))) ?_)
  rw [PySem.W.oi_run]
  exact wpAny_pure (And.intro rfl ⟨.ref (s.heap.objs.size + 1), _, J, rfl, z⟩)
theorem pe_new0 {x : Str} {p pos : Pos} (hm : PySem.W.makesIn X.K C = true) (hi : PySem.W.findIn X.K (.ref C) "__init__" = some (some (.builtin "object.__init__"))) (hk : PySem.W.keepIn X.K (.ref C) = true) (hg : Gl X x) (gC : X.mg x = some (.ref C))
    (hdb : (x == ("__debug__" : Str)) = false := by decide) : PE X (.Call (.Name x p) [] [] pos) (tNew0 C) := by
  refine ⟨fun pins s σ H Q I h => ?_⟩
  exact wpAny_Call_Name_kw (ld_glob I hg gC (PySem.W.callWith_K0 I.kIn hk (run_new0 hm hi I h)) hdb)
theorem pe_gc {x : Str} {v : V} {pos : Pos} (hg : Gl X x) (h : ∃ u, X.mg x = some u ∧ RelV v u) (hd : (x == ("__debug__" : Str)) = false := by decide) : PE X (.Name x pos) (tC v) :=
  ⟨fun _ _ _ H _ I q => by
    obtain ⟨u, h1, h2⟩ := h
    exact ld_glob I hg h1 ⟨v, H, I, h2, q⟩ hd⟩
/-! ### self.f = .. as one of several targets -/
def gFld (K : PySem.W.Frag) (to : TE) (f : Str) : TG := fun v σ H Q => to σ H fun x H1 => ∃ a C dx fs, x = .ref a ∧ H1 a = some (.ins C dx fs) ∧ Cls K C ∧ NoAttr K C f ∧ fs.length < 1000 ∧ Q σ (upd H1 a (.ins C dx (putF f v fs)))
theorem pg_fld {o : Expr} {f : Str} {pos : Pos} {to : TE} (ho : PE X o to) : PG X (.Attribute o f pos) (gFld X.K to f) := by
  refine ⟨fun pins s σ H v u Q I r h => ?_⟩
  rw [PySem.assign_Attribute]
  refine wpAny_bind (wpAny_holding (thn (ho.run pins s σ H _ I h) fun ov s1 ⟨x, H1, I1, rx, a, C, dx, fs, ex, ea, c, n, l, q⟩ => ?_))
  subst ex
  obtain rfl : ov = Value.ref a := rx
  refine wpAny_bind (wpAny_standAt (wpAny_bind (wpAny_holding (setattr_ok I1 ea c n l r fun s2 I2 => ?_))))
  exact wpAny_release ⟨σ, _, I2, q⟩
end
end Sl
/-! ## SlExc -/
namespace Sl
open PySem PySem.Spec PyProof.Rows L2 Evl
/-! ### Refused(..): its __init__ is a def of the text -/
abbrev clsOf (nm q : Str) (C N : Addr) (bs : List Value) (sn : List Str) (sub : List Value) (ab : Bool) (col : Option Bool) : ClassData :=
  { name := nm, bases := bs, mro := .ref C :: ESX.exTail, ns := N, qualname := q, hasDict := true, slotNames := sn, subclasses := sub, abstract := ab, collection := col, hasDel := false }
theorem RefC.data {K : PySem.W.Frag} {C : Addr} (T : RefC K C) : ∃ nm q N bs sn sub ab col, PySem.W.clsIn K C = some (clsOf nm q C N bs sn sub ab col) := by
  obtain ⟨nm, q, N, bs, sn, sub, ab, col, dd, k0, k1, k2, k3, k5, e⟩ := T.cls
  refine ⟨nm, q, N, bs, sn, sub, ab, col, ?_⟩
  unfold PySem.W.clsIn
  rw [e]
  first | rfl | done
section
variable {X : Cx} {pins : List (Addr × Obj)} {σ : L2.St} {H : Hp} {s : Shared} {a C dx : Addr} {f : Str} {y : V} {u : Value} {fs : List (Str × V)} {Q : Unit → Shared → Prop} {E : Value → Shared → Prop} {A : Around}
theorem rst_new (T : RefC X.K C) (I : Inv X pins σ H s) (e : H a = some (exo a C none)) (hno : PySem.W.findIn X.K (.ref C) f = some none) (ry : RelV y u)
    (h : ∀ dx s', H dx = none → dx ≠ a → Inv X pins σ (upd (upd H dx (exd dx [(f, y)])) a (exo a C (some dx))) s' → Q () s') : wpAny (model X.prog X.w) A (setAttr (.ref a) f u) Q E s := by
  obtain ⟨nm, q, N, bs, sn, sub, ab, col, hcl⟩ := T.data
  obtain ⟨tb, ho⟩ := exo_at I.hok e
  obtain ⟨hp, g, d, t, os⟩ := s
  dsimp only at ho
  refine PySem.W.set_plain (od := none) I.kIn ⟨ho, rfl, rfl, trivial⟩ T.sa (ESX.osa_new I.kIn ho hcl rfl rfl hno fun h2 tk2 dx kp dn dne hx hn => ?_)
  have hnd := I.hok.fresh dn
  have nd : ∀ {b : Addr} {o : Obj}, hp.get? b = some o → b ≠ dx := fun q => Nat.ne_of_lt (Nat.lt_of_lt_of_le (Heap.lt_size q) dn)
  have na : ∀ {b : Addr}, H b = none → b ≠ a := fun n z => by
    rw [z, e] at n
    cases n
  have U : Un X.fs [] H (upd (upd H dx (exd dx [(f, y)])) a (exo a C (some dx))) hp h2 :=
    ⟨fun b o q n _ _ => kp b o (na n) q, fun b o q n _ _ => ⟨o.slots, kp b o (na n) q⟩, fun b o q n _ => (upd_ne (na n)).trans ((upd_ne (nd q)).trans n),
      fun b o q _ => (Classical.em (b = a)).elim (fun hb => by subst hb; exact ⟨_, hx⟩) fun hb => ⟨o, kp b o hb q⟩, fun b xs q => (upd_ne (at_ne e q exo_tup)).trans ((upd_ne (ne_of_none q hnd)).trans q),
      fun b o v q => (upd_ne (at_ne e q exo_frz)).trans ((upd_ne (ne_of_none q hnd)).trans q),
      fun b ps q => ⟨#[], by rw [upd_ne (at_ne e q exo_tbl), upd_ne (ne_of_none q hnd), q]; simp⟩⟩
  refine h dx _ hnd dne (I.un (t' := tk2) U fun b o q => ?_)
  rcases Classical.em (b = a) with hb | hb
  · subst hb
    rw [upd_same] at q
    injection q with q
    subst q
    exact exo_ok hx
  rw [upd_ne hb] at q
  rcases Classical.em (b = dx) with hd | hd
  · subst hd
    rw [upd_same] at q
    injection q with q
    subst q
    exact exd_ok hn (relO_put (fs := []) ry fun _ => True.intro)
  rw [upd_ne hd] at q
  refine (I.hok b o q).stay (fun c v hc z => kp c v (hc.elim (fun w => w ▸ hb) fun w => at_ne e w exo_own) z) (fun c hc => ?_) fun c xs hc => ?_
  · rw [upd_ne (at_ne e hc exo_own), upd_ne (ne_of_none hc hnd)]
    exact hc
  · rw [upd_ne (at_ne e hc exo_tup), upd_ne (ne_of_none hc hnd)]
    exact hc
theorem rst_old (T : RefC X.K C) (I : Inv X pins σ H s) (e : H a = some (exo a C (some dx))) (ed : H dx = some (exd dx fs)) (hl : fs.length ≤ 900) (hno : PySem.W.findIn X.K (.ref C) f = some none) (ry : RelV y u)
    (h : ∀ s', Inv X pins σ (upd H dx (exd dx ((f, y) :: fs))) s' → Q () s') : wpAny (model X.prog X.w) A (setAttr (.ref a) f u) Q E s := by
  obtain ⟨nm, q, N, bs, sn, sub, ab, col, hcl⟩ := T.data
  obtain ⟨tb, ho⟩ := exo_at I.hok e
  obtain ⟨mA, hns, rel⟩ := exd_at I.hok ed
  obtain ⟨hp, g, d, t, os⟩ := s
  have hw := within_of rel
  obtain ⟨oD, _, _, hoD, _, _⟩ := hns.count hw
  refine PySem.W.set_plain (od := some oD) I.kIn ⟨ho, rfl, rfl, hoD⟩ T.sa (ESX.osa_old I.kIn ho hns hw (by rw [List.length_map]; omega) hcl rfl rfl hno fun h2 tk2 kp hn => ?_)
  refine h _ (I.write (t' := tk2) (x := dx) (e := dx) (by rw [ed]; exact True.intro) (.inl rfl) kp ?_ (exd_ok hn (relO_put ry rel)))
  obtain ⟨o, _, _, q, _⟩ := hn
  exact ⟨o, q⟩
end
/-- self.f = e, self an exception under way -/
def tRst (K : PySem.W.Frag) (f : Str) (to te : TE) : TS := fun D σ H => te σ H fun y H1 => to σ H1 fun x H2 => ∃ a C : Addr, x = .ref a ∧ RefC K C ∧ PySem.W.findIn K (.ref C) f = some none ∧
  ((H2 a = some (exo a C none) ∧ ∀ dx, H2 dx = none → dx ≠ a → D.nx σ (upd (upd H2 dx (exd dx [(f, y)])) a (exo a C (some dx)))) ∨
    ∃ (dx : Addr) (fs : List (Str × V)), H2 a = some (exo a C (some dx)) ∧ H2 dx = some (exd dx fs) ∧ fs.length ≤ 900 ∧ D.nx σ (upd H2 dx (exd dx ((f, y) :: fs))))
section
variable {X : Cx} {o e : Expr} {es : List Expr} {to te : TE} {ta : TA} {f x : Str} {p p' pos : Pos}
theorem ps_rst (ho : PE X o to) (he : PE X e te) (hs : swapsWith e (some (.Attribute o f p')) pos.line X.env = pure false := by rfl) : PS X (.Assign [.Attribute o f p'] e pos) (tRst X.K f to te) := by
  refine ⟨fun pins s σ H D I h => plainObj_wpAny_Assign_Attribute (thn (he.run pins s σ H _ I h) fun v s1 ⟨y, H1, I1, r1, q1⟩ => thn (ho.run pins s1 σ H1 _ I1 q1) fun u s2 ⟨x, H2, I2, r2, a, C, ex, T, hno, q⟩ => ?_) hs⟩
  subst ex
  obtain rfl : u = Value.ref a := r2
  exact q.elim (fun ⟨ea, q⟩ => rst_new T I2 ea hno r1 fun dx s' n ne J => ⟨σ, _, J, q dx n ne⟩) fun ⟨dx, fs, ea, ed, hl, q⟩ => rst_old T I2 ea ed hl hno r1 fun s' J => ⟨σ, _, J, q⟩
/-- C(e, ..), the exception let go behind its __init__ -/
def tMkR (C : Addr) (sp : Sp) (dvs : List V) (ta : TA) : L2.St → Hp → XK → Prop := fun σ H Q => ta σ H fun vs H1 => vs.length ≤ 1000 ∧ ∀ a, H1 a = none → sp (.ref a :: (vs ++ dvs)) (upd H1 a (exo a C none))
  (fun v H2 => v = .non ∧ ∃ (d : Addr) (fs : List (Str × V)), H2 a = some (exo a C (some d)) ∧ H2 d = some (exd d fs) ∧ H1 d = none ∧ Q (.ref C) (some d) (upd (del H2 a) d (.xd fs))) (fun _ _ _ => False)
theorem pmk_ref {cx : CXT} {C fI : Addr} {k : Nat} {fd : FuncData} {ps : List Str} {sp : Sp} {ds : List Value} {dvs : List V} (T : RefC X.K C) (iC : PySem.W.findIn X.K (.ref C) "__init__" = some (some (.ref fI))) (tI : PySem.W.typeIn X.K (.ref fI) = some (.type "function"))
    (G : FnOk X.prog X.w X.K X.mg X.base cx k fI fd ps sp) (hr : Room (k + 1) X.A) (hb : Binds X.K fd ps ds) (hd : Vals dvs ds) (hx : Passes cx X (fun _ _ _ => False)) (hg : Gl X x) (hm : X.mg x = some (.ref C)) (ha : PA X (e :: es) ta)
    (hdb : (x == ("__debug__" : Str)) = false := by decide) (he : starEach (e :: es) X.env = (false, eval e X.env) :: starEach es X.env := by rfl) (hpl : (backTo pos (starEach es X.env)).any (·.1) = false := by rfl) :
    L2N.PMk X (.Call (.Name x p) (e :: es) [] pos) (tMkR C sp dvs ta) := by
  intro pins s σ H Q I h
  obtain ⟨nm, q, N, bs, sn, sub, ab, col, dd, k0, k1, k2, k3, k5, hC⟩ := T.cls
  refine wpAny_Call_Name_kw (ld_glob I hg hm (PySem.W.callWith_K (h₀ := X.base) I.ok.mod.kin T.kC (thn (ha.run pos pins s σ H _ I h) fun us s1 ⟨vs, H1, I1, r1, hz, q1⟩ => ⟨I1.kIn, ?_⟩) he hpl) hdb)
  show wpAny _ _ (call (.ref C) us) _ _ _
  obtain ⟨hp, g, dr, tk, os⟩ := s1
  have up := Nat.le_succ hp.objs.size
  have hn : H1 (hp.objs.size + 1) = none := I1.hok.fresh up
  have hq := q1 _ hn
  have kk : ∀ b o, hp.get? b = some o → ((hp.push (PySem.W.kdv_tup us)).push (PySem.HandSPX.excO C hp.objs.size)).get? b = some o := fun b o z => Heap.get?_push_of_some _ (Heap.get?_push_of_some _ z)
  have at2 : ((hp.push (PySem.W.kdv_tup us)).push (PySem.HandSPX.excO C hp.objs.size)).get? (hp.objs.size + 1) = some (PySem.HandSPX.excO C hp.objs.size) := by heap_get
  have I2 : Inv X pins σ (upd H1 (hp.objs.size + 1) (exo (hp.objs.size + 1) C none)) ⟨(hp.push (PySem.W.kdv_tup us)).push (PySem.HandSPX.excO C hp.objs.size), g, dr, tk, os⟩ := I1.laid (t' := tk) kk up (exo_ok at2)
  have r2 : Vals (V.ref (hp.objs.size + 1) :: (vs ++ dvs)) (Value.ref (hp.objs.size + 1) :: (us ++ ds)) := .cons rfl (r1.append hd)
  have hl : (Value.ref (hp.objs.size + 1) :: us ++ ds).length = ps.length := r2.length.symm.trans (G.len _ _ _ _ hq)
  have hus : us.length ≤ sizeLine := by rw [← Paired.length r1, sizeLine_eq]; omega
  have go := G.run _ X.stack _ _ ⟨Value.ref (hp.objs.size + 1) :: us, []⟩ (Value.ref (hp.objs.size + 1) :: (us ++ ds)) _ _ (fun _ _ _ => False) (hr.make C us []) (I2.env0.make C us []) (hb _ (Value.ref (hp.objs.size + 1) :: us) I2.kIn hl) r2 hq
  refine wpAny_call (PySem.HandSPX.call_own F.excBase_Exception (fun _ => rfl) (I1.kIn _ _ hC) (PySem.W.looks_findIn I1.kIn iC) (fun self => PySem.W.bind_fn I1.kIn self tI) hus (codeAny_mono go fun r s' z => ?_))
  cases r with
  | error er => exact hx pins σ _ _ er s' I2 z
  | ok fl =>
    cases fl with
    | ret w =>
      obtain ⟨v, H2, os2, bare2, un2, hok2, rv, ev, d, fs, ea, ed, hd1, q2⟩ := z
      subst ev
      obtain ⟨h2, g2, d2, t2, os3⟩ := s'
      obtain ⟨t0, G2, J, kG, ge, hoe, na⟩ := L2.mk_end0 (d2 := d2) (t2 := t2) I1 up kk un2 hok2 os2 bare2 ea ed hd1
      exact ⟨rv, hp.objs.size + 1, _, _, ⟨G2, g2, d2, t2, os3⟩, _, .ref C, some d, rfl, J, kG, ge, hoe, ⟨rfl, rfl, fun vs z => by cases z; rfl⟩, rfl, rfl, na, rfl, bare2, raises_own T.exC T.tyC, q2⟩
    | next => exact False.elim z
    | brk => exact False.elim z
    | cont => exact False.elim z
end
end Sl
/-! ## SlHot -/
namespace Sl
open PySem PySem.Spec PyProof.Rows L2 HotX
/-! ### while an exception is handled: its context is None, or one whose own context is None -/
def HotW (A : Around) (h : Heap) : Prop := ∃ (x : Addr) (o : Obj) (vs : Array Value), A.handled = some (.ref x) ∧ h.get? x = some o ∧ o.data = .fields vs ∧
  (vs[2]? = some .none ∨ ∃ (y : Addr) (p : Obj) (ws : Array Value), vs[2]? = some (.ref y) ∧ h.get? y = some p ∧ p.data = .fields ws ∧ ws[2]? = some .none)
theorem HotW.keeps {A : Around} {h h' : Heap} (k : ∀ b o, h.get? b = some o → h'.get? b = some o) (w : HotW A h) : HotW A h' := by
  obtain ⟨x, o, vs, e, h1, h2, h3⟩ := w
  refine ⟨x, o, vs, e, k _ _ h1, h2, ?_⟩
  rcases h3 with h3 | ⟨y, p, ws, q1, q2, q3⟩
  · exact .inl h3
  · exact .inr ⟨y, p, ws, q1, k _ _ q2, q3⟩
theorem HotW.but {A : Around} {h h' : Heap} {it : Addr} {oi : Obj} {us : Array Value} (k : ∀ b o, b ≠ it → h.get? b = some o → h'.get? b = some o) (e1 : h.get? it = some oi) (e2 : oi.data = .fields us) (e3 : us[2]? = none) (w : HotW A h) : HotW A h' := by
  have ne : ∀ {x : Addr} {o : Obj} {vs : Array Value} {v : Value}, h.get? x = some o → o.data = .fields vs → vs[2]? = some v → x ≠ it := fun q1 q2 q3 z => by
    subst z
    rw [e1] at q1
    cases q1
    rw [e2] at q2
    cases q2
    rw [e3] at q3
    cases q3
  obtain ⟨x, o, vs, e, h1, h2, h3⟩ := w
  rcases h3 with h3 | ⟨y, p, ws, q1, q2, q3, q4⟩
  · exact ⟨x, o, vs, e, k _ _ (ne h1 h2 h3) h1, h2, .inl h3⟩
  · exact ⟨x, o, vs, e, k _ _ (ne h1 h2 q1) h1, h2, .inr ⟨y, p, ws, q1, k _ _ (ne q2 q3 q4) q2, q3, q4⟩⟩
section
variable {prog : Program} {w : World} {A : Around} {E : Value → Shared → Prop} {s : Shared}
theorem ref_beq {a b : Addr} (h : a ≠ b) : (Value.ref a == Value.ref b) = false := by
  rw [beq_eq_false_iff_ne]
  exact fun e => h (Value.ref.inj e)
theorem unchained2 {x y a : Addr} {o p : Obj} {vs ws : Array Value} {Q : Value → Shared → Prop} (h1 : s.heap.get? x = some o) (d1 : o.data = .fields vs) (c1 : vs[2]? = some (.ref y)) (h2 : s.heap.get? y = some p) (d2 : p.data = .fields ws) (c2 : ws[2]? = some .none) (na : y ≠ a) (q : Q .none s) :
    wpAny (model prog w) A (holding [Value.ref a] (runValue (.builtin "proto.unchain" ⟨[.ref a, .ref x, .ref x, .bool false], []⟩))) Q E s := by
  have nx : y ≠ x := fun z => by
    subst z
    rw [h1] at h2
    cases h2
    rw [d1] at d2
    cases d2
    rw [c1] at c2
    cases c2
  refine wpAny_holding (wpAny_runValue (codeAny_builtin entry_unchain ?_))
  show wpAny _ _ (field (.ref x) 2 >>= _) _ _ s
  refine wpAny_bind (wpAny_field h1 d1 c1 ?_)
  rw [if_neg (show ¬ (Value.ref y == Value.none) = true by intro z; cases z), if_neg (show ¬ (Value.ref y == Value.ref a) = true by rw [ref_beq na]; decide), if_neg (show ¬ (Value.ref y == Value.ref x) = true by rw [ref_beq nx]; decide)]
  refine wpAny_bind (wpAny_pure ?_)
  refine wpAny_pure ⟨Code.quiet_builtin _ (by decide +kernel), codeAny_builtin entry_unchain ?_⟩
  show wpAny _ _ (field (.ref y) 2 >>= _) _ _ s
  refine wpAny_bind (wpAny_field h2 d2 c2 ?_)
  rw [if_pos (show (Value.none == Value.none) = true from rfl)]
  first
  | exact wpAny_bind (wpAny_pure (wpAny_pure q))
  | exact wpAny_pure q
theorem raiseNew_hotW {α : Type} {a : Addr} {oe : Obj} {vs : Array Value} {Q : α → Shared → Prop} {h0 : Heap} (hot : HotW A h0) (k : ∀ b o, h0.get? b = some o → s.heap.get? b = some o) (hne : h0.get? a = none) (ha : s.heap.get? a = some oe) (da : oe.data = .fields vs) (hi : 2 < vs.size)
    (hE : ∀ x, E (.ref a) { s with heap := s.heap.update a (Obj.mapFields (·.setIfInBounds 2 (.ref x))) }) : wpAny (model prog w) A (raiseNew (.ref a) : Sem α) Q E s := by
  obtain ⟨x, o1, vs1, hh, h1, d1, c1⟩ := hot
  have nx : x ≠ a := fun z => by rw [z, hne] at h1; cases h1
  have un : ∀ {Q' : Value → Shared → Prop}, Q' .none s → wpAny (model prog w) A (holding [Value.ref a] (runValue (.builtin "proto.unchain" ⟨[.ref a, .ref x, .ref x, .bool false], []⟩))) Q' E s := fun {Q'} q => by
    rcases c1 with c1 | ⟨y, p, ws, c1, h2, d2, c2⟩
    · exact unchained (k _ _ h1) d1 c1 q
    · exact unchained2 (k _ _ h1) d1 c1 (k _ _ h2) d2 c2 (fun z => by rw [z, hne] at h2; cases h2) q
  unfold raiseNew
  refine wpAny_bind (wpAny_handled ?_)
  rw [hh]
  show wpAny _ _ (if (Value.ref x != Value.ref a) = true then _ else _) _ _ _
  rw [if_pos (ref_bne nx)]
  first
  | exact wpAny_bind (un (wpAny_bind (chained ha da hi (wpAny_throw (hE x)))))
  | exact wpAny_bind (wpAny_bind (un (chained ha da hi (wpAny_throw (hE x)))))
/-- StopIteration, made and raised -/
theorem stop_hotW {α : Type} {A' : Around} {h0 : Heap} {Q : Option Value → Shared → Prop} {Q0 : α → Shared → Prop} (hot : HotW A' h0) (k : ∀ b o, h0.get? b = some o → s.heap.get? b = some o)
    (q : ∀ h', (∀ b o, s.heap.get? b = some o → h'.get? b = some o) → Q none { s with heap := h' }) :
    wpAny (model prog w) A' (newExc (.type "StopIteration") [] >>= fun e => (raiseNew e : Sem α)) Q0
      (fun e s' => wpAny (model prog w) A (isInstance e (.type "StopIteration") >>= fun b => if b = true then (pure none : Sem (Option Value)) else throw e) Q E s') s := by
  refine wpAny_bind ?_
  simp only [newExc, newTuple]
  refine wpAny_bind (wpAny_newObj_type ?_ (by size_fits))
  refine wpAny_bind (m := firstArgMember _ _) (wpAny_of_eq (a := Value.none) (by first | rfl | (simp only [firstArgMember]; rfl)) (wpAny_newObj_type ?_ (by size_fits)))
  have kk : ∀ {u v : Obj} b o, s.heap.get? b = some o → ((s.heap.push u).push v).get? b = some o := fun b o e => Heap.get?_push_of_some _ (Heap.get?_push_of_some _ e)
  refine raiseNew_hotW hot (fun b o e => kk b o (k b o e)) ?_ (Heap.get?_push_size _ rfl) rfl (by first | (simp; done) | (simp; omega) | (simp only [Array.size_append]; simp; omega)) fun x => ?_
  · cases e : h0.get? (s.heap.push _).objs.size with
    | none => rfl
    | some o =>
      have z := Heap.lt_size (h := s.heap.push { cls := Value.type "tuple", data := Data.seq #[] }) (Heap.get?_push_of_some _ (k _ _ e))
      exact absurd z (Nat.lt_irrefl _)
  refine wpAny_bind (wpAny_isInstance (T := "StopIteration") (b := true) ⟨_, Heap.get?_update_self _ (Heap.get?_push_size _ rfl) rfl, rfl⟩ isSubtype_stop (wpAny_pure (q _ fun b o e => ?_)))
  rw [Heap.get?_update_other _ _ (Nat.ne_of_gt (Heap.lt_size (Heap.get?_push_of_some _ e)))]
  exact kk b o e
theorem range_end_hot {it : Addr} {x left step : Int} {Q : Option Value → Shared → Prop} (hot : HotW A s.heap) (hit : IsRangeIter s.heap it x left step) (hl : left ≤ 0)
    (hQ : ∀ h', (∀ b o, s.heap.get? b = some o → h'.get? b = some o) → Q none { s with heap := h' }) : wpAny (model prog w) A (pyNext (.ref it)) Q E s := by
  have hT : s.TypeIs (.ref it) "range_iterator" := ⟨_, hit, rfl⟩
  unfold pyNext
  refine wpAny_bind (wpAny_attempt (wpAny_callSpecial?_slot (name := Str.ofString "__next__") hT F.slot_range_iterator_next (wpAny_call_entry F.slot_range_iterator_next hT F.entry_range_iterator_next ?_ (F.args_range_iterator_next_1 _))))
  show wpAny _ _ (field (.ref it) 0 >>= _) _ _ s
  refine wpAny_bind (wpAny_field hit rfl (x := rawInt x) rfl ?_)
  show wpAny _ _ (field (.ref it) 1 >>= _) _ _ s
  refine wpAny_bind (wpAny_field hit rfl (x := rawInt left) rfl ?_)
  show wpAny _ _ (field (.ref it) 2 >>= _) _ _ s
  refine wpAny_bind (wpAny_field hit rfl (x := rawInt step) rfl ?_)
  show wpAny _ _ (if left ≤ 0 then _ else _) _ _ s
  rw [if_pos hl]
  refine wpAny_bind (wpAny_rule (wpAny_bind ?_))
  exact stop_hotW (A' := A.in1) hot (fun _ _ e => e) hQ
theorem str_end_hot {it : Addr} {x : Str} {t : Tok} {i : Nat} {ty : String} {Q : Option Value → Shared → Prop} (hot : HotW A s.heap) (hty : ty = "str_ascii_iterator" ∨ ty = "str_iterator") (hit : s.heap.IsStrIter it ty x t i) (hx : x.cps[i]? = none)
    (hQ : ∀ h', (∀ b o, b ≠ it → s.heap.get? b = some o → h'.get? b = some o) → Q none { s with heap := h' }) : wpAny (model prog w) A (pyNext (.ref it)) Q E s := by
  obtain ⟨o, ho, hc, hd⟩ := id hit
  rcases hty with rfl | rfl
  · unfold pyNext
    refine wpAny_bind (wpAny_attempt (wpAny_callSpecial?_slot (name := Str.ofString "__next__") hit.typeIs F.slot_str_ascii_iterator_next (wpAny_call_entry F.slot_str_ascii_iterator_next hit.typeIs F.entry_str_ascii_iterator_next ?_ (F.args_str_ascii_iterator_next_1 _))))
    show wpAny _ _ (field (.ref it) 0 >>= _) _ _ s
    refine wpAny_bind (wpAny_field ho hd (x := .str x t) rfl ?_)
    show wpAny _ _ (field (.ref it) 1 >>= _) _ _ s
    refine wpAny_bind (wpAny_field ho hd (x := .int i 0) rfl ?_)
    simp only [Int.toNat_natCast, hx]
    refine wpAny_bind (wpAny_rule (wpAny_bind (wpAny_setField ho hd (by simp) (wpAny_bind (wpAny_letGo ?_)))))
    have kb : ∀ b o, b ≠ it → s.heap.get? b = some o → (s.heap.update it (Obj.mapFields fun x => x.setIfInBounds 0 Value.none)).get? b = some o := fun b o nb e => by rw [Heap.get?_update_other _ _ (Ne.symm nb)]; exact e
    exact stop_hotW (A' := A.in1) (HotW.but (A := A) kb ho hd rfl hot) (fun _ _ e => e) fun h' k => hQ h' fun b o nb e => k _ _ (kb b o nb e)
  · unfold pyNext
    refine wpAny_bind (wpAny_attempt (wpAny_callSpecial?_slot (name := Str.ofString "__next__") hit.typeIs F.slot_str_iterator_next (wpAny_call_entry F.slot_str_iterator_next hit.typeIs F.entry_str_iterator_next ?_ (F.args_str_iterator_next_1 _))))
    show wpAny _ _ (field (.ref it) 0 >>= _) _ _ s
    refine wpAny_bind (wpAny_field ho hd (x := .str x t) rfl ?_)
    show wpAny _ _ (field (.ref it) 1 >>= _) _ _ s
    refine wpAny_bind (wpAny_field ho hd (x := .int i 0) rfl ?_)
    simp only [Int.toNat_natCast, hx]
    refine wpAny_bind (wpAny_rule (wpAny_bind (wpAny_setField ho hd (by simp) (wpAny_bind (wpAny_letGo ?_)))))
    have kb : ∀ b o, b ≠ it → s.heap.get? b = some o → (s.heap.update it (Obj.mapFields fun x => x.setIfInBounds 0 Value.none)).get? b = some o := fun b o nb e => by rw [Heap.get?_update_other _ _ (Ne.symm nb)]; exact e
    exact stop_hotW (A' := A.in1) (HotW.but (A := A) kb ho hd rfl hot) (fun _ _ e => e) fun h' k => hQ h' fun b o nb e => k _ _ (kb b o nb e)
end
end Sl
/-! ## SlHot2 -/
namespace Sl
open PySem PySem.Spec PyProof.Rows L2 HotX
/-! ### walks while an exception is handled -/
/-- the handled exception is among the pins, so is its context -/
def HotP (A : Around) (pn : List (Addr × Obj)) : Prop := ∃ p, p ∈ pn ∧ A.handled = some (.ref p.1) ∧ ∃ vs : Array Value, p.2.data = .fields vs ∧
  (vs[2]? = some .none ∨ ∃ q, q ∈ pn ∧ vs[2]? = some (.ref q.1) ∧ ∃ ws : Array Value, q.2.data = .fields ws ∧ ws[2]? = some .none)
theorem HotP.at {X : Cx} {pins : List (Addr × Obj)} {σ : L2.St} {H : Hp} {s : Shared} (c : HotP X.A X.pn) (I : Inv X pins σ H s) : HotW X.A s.heap := by
  obtain ⟨p, hp, hh, vs, d, r⟩ := c
  refine ⟨p.1, p.2, vs, hh, (I.pin p (List.mem_append_left _ hp)).1, d, ?_⟩
  rcases r with r | ⟨q, hq, r, ws, d2, c2⟩
  · exact .inl r
  · exact .inr ⟨q.1, q.2, ws, r, (I.pin q (List.mem_append_left _ hq)).1, d2, c2⟩
structure TurnW (P : Program) (w : World) (K : PySem.W.Frag) (tg : Expr) (J : It) (fp : List Addr) (it : Addr) (tn : Nat → Heap → Prop) : Prop where
  mem : it ∈ fp
  obj : ∀ i h, tn i h → ∀ b ∈ fp, ∃ o, h.get? b = some o ∧ ∀ v, o.data ≠ .cell v
  keep : ∀ i h h', tn i h → (∀ b ∈ fp, ∀ o, h.get? b = some o → h'.get? b = some o) → tn i h'
  item : ∀ (X : Cx), X.prog = P → X.w = w → X.K = K → ∀ (i : Nat) (pins : List (Addr × Obj)) (s : Shared) (σ : L2.St) (H : Hp) (E : Value → Shared → Prop), Inv X pins σ H s → (∀ b ∈ fp, FpOk X pins H b) → tn i s.heap → J.go i H →
    wpAny (model P w) X.A (pyNext (.ref it)) (fun r s1 => ∃ u, r = some u ∧ wpAny (model P w) X.A (letOwnedTupleGo tg (.ref it) u) (fun _ s2 => ∃ x H', Inv X pins σ H' s2 ∧ RelV x u ∧ J.yld i H x H' ∧ tn (i + 1) s2.heap ∧ ∀ b ∈ fp, H' b = none) E s1) E s
  done : ∀ (X : Cx), X.prog = P → X.w = w → X.K = K → ∀ (i : Nat) (pins : List (Addr × Obj)) (s : Shared) (σ : L2.St) (H : Hp) (E : Value → Shared → Prop), Inv X pins σ H s → HotW X.A s.heap → (∀ b ∈ fp, FpOk X pins H b) → tn i s.heap → J.stop i H →
    wpAny (model P w) X.A (pyNext (.ref it)) (fun r s1 => r = none ∧ Inv X pins σ H s1) E s
  self : ∀ (A : Around) (i : Nat) (s : Shared) (Q : Value → Shared → Prop) (E : Value → Shared → Prop), tn i s.heap → Q (.ref it) s → wpAny (model P w) A (pyIter (.ref it)) Q E s
theorem turnW_range {P : Program} {w : World} {K : PySem.W.Frag} {tg : Expr} (it : Addr) (lo : Int) (n : Nat) : TurnW P w K tg (Itr lo n) [it] it (fun i h => IsRangeIter h it (lo + (i : Nat) * 1) ((n : Int) - (i : Nat)) 1) where
  mem := List.mem_singleton.mpr rfl
  obj := fun i h st b hb => by
    obtain rfl := List.mem_singleton.mp hb
    exact ⟨_, st, fun v z => by
      have z' : Data.fields _ = Data.cell v := z
      cases z'⟩
  keep := fun i h h' st k => k it (List.mem_singleton.mpr rfl) _ st
  item := by
    intro X e1 e2 e3 i pins s σ H E I hf st hg
    subst e1 e2 e3
    obtain ⟨f0, f1, f2, f3, f4, f5⟩ := hf it (List.mem_singleton.mpr rfl)
    have hlt : i < n := hg
    refine wpAny_pyNext_range_item st (by omega) fun h' st' sb => ?_
    have st2 : IsRangeIter h' it (lo + ((i + 1 : Nat) : Int) * 1) ((n : Int) - ((i + 1 : Nat) : Int)) 1 := by
      rw [show lo + ((i + 1 : Nat) : Int) * 1 = lo + ((i : Nat) : Int) * 1 + 1 by omega, show (n : Int) - ((i + 1 : Nat) : Int) = (n : Int) - ((i : Nat) : Int) - 1 by omega]
      exact st'
    refine ⟨_, rfl, go_of (s := { s with heap := h', toks := s.toks + 1 }) (n := "range_iterator") st2 rfl rfl (by decide) ⟨.int (lo + i), H, I.turned (fun b o hb e => (sb.2 b hb).trans e) f0 f1 f3 f4 f5, ⟨s.toks, by rw [Int.mul_one]⟩, ⟨rfl, rfl⟩, st2, fun b hb => (hf b hb).1⟩⟩
  done := by
    intro X e1 e2 e3 i pins s σ H E I hot hf st hg
    subst e1 e2 e3
    obtain ⟨f0, f1, f2, f3, f4, f5⟩ := hf it (List.mem_singleton.mpr rfl)
    exact range_end_hot hot st (by have : n ≤ i := hg; omega) fun h' eb => ⟨rfl, I.turned (t' := s.toks) (fun b o _ e => eb b o e) f0 f1 f3 f4 f5⟩
  self := fun _ _ _ _ _ st h => wpAny_pyIter_rangeiter st h
theorem turnW_str {P : Program} {w : World} {K : PySem.W.Frag} {tg : Expr} (it : Addr) (x : Str) (t : Tok) (ty : String) (hty : ty = "str_ascii_iterator" ∨ ty = "str_iterator") : TurnW P w K tg (Its x) [it] it (fun i h => h.IsStrIter it ty x t i) where
  mem := List.mem_singleton.mpr rfl
  obj := fun i h st b hb => by
    obtain rfl := List.mem_singleton.mp hb
    obtain ⟨o, e, c, d⟩ := st
    exact ⟨o, e, fun v z => by rw [d] at z; cases z⟩
  keep := fun i h h' st k => let ⟨o, ho, r⟩ := st; ⟨o, k it (List.mem_singleton.mpr rfl) o ho, r⟩
  item := by
    intro X e1 e2 e3 i pins s σ H E I hf st hg
    subst e1 e2 e3
    obtain ⟨f0, f1, f2, f3, f4, f5⟩ := hf it (List.mem_singleton.mpr rfl)
    have hlt : i < x.cps.size := hg
    have hx : x.cps[i]? = some x.cps[i] := Array.getElem?_eq_getElem hlt
    have fin : ∀ {ty : String}, (["enumerate", "zip", "dict_itemiterator", "dict_reverseitemiterator", "odict_iterator", "itertools.zip_longest", "itertools.pairwise"].contains ty = false) → ∀ h', h'.IsStrIter it ty x t (i + 1) → Heap.SameBut it s.heap h' → ∃ u, some (Value.str ⟨#[x.cps[i]]⟩ s.toks) = some u ∧
        wpAny (model X.prog X.w) X.A (letOwnedTupleGo tg (.ref it) u) (fun _ s2 => ∃ y H', Inv X pins σ H' s2 ∧ RelV y u ∧ (Its x).yld i H y H' ∧ s2.heap.IsStrIter it ty x t (i + 1) ∧ ∀ b ∈ [it], H' b = none) E { s with heap := h', toks := s.toks + 1 } := fun {ty} hno h' st' sb => by
      obtain ⟨oi, e, cc, dd⟩ := id st'
      exact ⟨_, rfl, go_of (s := { s with heap := h', toks := s.toks + 1 }) e cc dd hno ⟨.str ⟨#[x.cps[i]]⟩, H, I.turned (fun b o hb e => (sb.2 b hb).trans e) f0 f1 f3 f4 f5, ⟨_, rfl⟩, ⟨rfl, _, hx, rfl⟩, st', fun b hb => (hf b hb).1⟩⟩
    rcases hty with rfl | rfl
    · exact wpAny_pyNext_ascii_item st hx fun h' st' sb => fin (by decide) h' st' sb
    · exact wpAny_pyNext_wide_item st hx fun h' st' sb => fin (by decide) h' st' sb
  done := by
    intro X e1 e2 e3 i pins s σ H E I hot hf st hg
    subst e1 e2 e3
    obtain ⟨f0, f1, f2, f3, f4, f5⟩ := hf it (List.mem_singleton.mpr rfl)
    exact str_end_hot hot hty st (Array.getElem?_eq_none hg) fun h' eb => ⟨rfl, I.turned (t' := s.toks) (fun b o hb e => eb b o hb e) f0 f1 f3 f4 f5⟩
  self := fun A i s Q E st h => by
    rcases hty with rfl | rfl
    · exact wpAny_pyIter_striter_ascii st h
    · exact wpAny_pyIter_striter_wide st h
def PIEW (X : Cx) (pins : List (Addr × Obj)) (σ : L2.St) (tg : Expr) (R : It → Hp → Prop) (itv : Value) (s2 : Shared) : Prop :=
  ∃ (it : Addr) (fp : List Addr) (tn : Nat → Heap → Prop) (J : It) (H' : Hp), itv = .ref it ∧ Inv X pins σ H' s2 ∧ TurnW X.prog X.w X.K tg J fp it tn ∧ tn 0 s2.heap ∧ (∀ b ∈ fp, FpOk X pins H' b) ∧ R J H'
structure PIW (X : Cx) (tg iter : Expr) (wi : TI) : Prop where
  run : ∀ (pins : List (Addr × Obj)) (s : Shared) (σ : L2.St) (H : Hp) (R : It → Hp → Prop), Inv X pins σ H s → wi σ H R →
    wpAny (model X.prog X.w) X.A (eval iter X.env) (fun v s1 => wpAny (model X.prog X.w) X.A (pyIter v) (PIEW X pins σ tg R) X.xe s1) X.xe s
section
variable {X : Cx} {tg : Expr}
theorem piw_one {pins : List (Addr × Obj)} {σ : L2.St} {H : Hp} {s : Shared} {R : It → Hp → Prop} {J : It} {tn : Nat → Heap → Prop} {tk : Nat} (I : Inv X pins σ H s) (o : Obj)
    (T : TurnW X.prog X.w X.K tg J [s.heap.objs.size] s.heap.objs.size tn) (st : tn 0 (s.heap.push o)) (q : R J H) : PIEW X pins σ tg R (.ref s.heap.objs.size) { s with heap := s.heap.push o, toks := tk } :=
  ⟨s.heap.objs.size, [s.heap.objs.size], tn, J, H, rfl, I.kept fun b ob e => Heap.get?_push_of_some _ e, T, st, fun b hb => by
    obtain rfl := List.mem_singleton.mp hb
    exact I.fpOk (Nat.le_refl _) (I.hok.fresh (Nat.le_refl _)), q⟩
theorem piw_str {e : Expr} {te : TE} (he : PE X e te) : PIW X tg e (iStr te) := by
  refine ⟨fun pins s σ H R I h => ?_⟩
  refine thn (he.run pins s σ H _ I h) fun v s1 ⟨y, H1, I1, r1, x, ex, q⟩ => ?_
  subst ex
  obtain ⟨t, rfl⟩ := r1
  cases ha : x.cps.all (· < 128)
  · exact wpAny_pyIter_wide ha (piw_one (tk := s1.toks) I1 _ (turnW_str _ x t "str_iterator" (.inr rfl)) ⟨_, Heap.get?_push_size _ rfl, rfl, rfl⟩ q)
  · exact wpAny_pyIter_ascii ha (piw_one (tk := s1.toks) I1 _ (turnW_str _ x t "str_ascii_iterator" (.inl rfl)) ⟨_, Heap.get?_push_size _ rfl, rfl, rfl⟩ q)
theorem piw_rng {pins : List (Addr × Obj)} {σ : L2.St} {H : Hp} {s : Shared} {R : It → Hp → Prop} {E : Value → Shared → Prop} {j : Int} {t u v : Tok} {tk : Nat} (I : Inv X pins σ H s) (q1 : -(2 ^ 62) ≤ j) (q2 : j < 2 ^ 62) (q : R (Itr 0 j.toNat) H) :
    wpAny (model X.prog X.w) X.A (pyIter (.ref s.heap.objs.size)) (PIEW X pins σ tg R) E { s with heap := s.heap.push { cls := .type "range", data := .fields #[.int 0 t, .int j u, .int 1 v] }, toks := tk } := by
  refine wpAny_pyIter_range (IsRange.new ..) (small_one (by omega) (by omega) q1 q2) ?_
  have I2 : Inv X pins σ H { s with heap := s.heap.push { cls := .type "range", data := .fields #[.int 0 t, .int j u, .int 1 v] }, toks := tk } := I.kept fun b o e => Heap.get?_push_of_some _ e
  refine piw_one (tk := tk) I2 _ (turnW_range _ 0 j.toNat) ?_ q
  have e2 : ((j.toNat : Nat) : Int) - ((0 : Nat) : Int) = Builtin.Range.rangeSize 0 j 1 := by rw [rangeSize_one]; split <;> omega
  show IsRangeIter _ _ (0 + ((0 : Nat) : Int) * 1) (((j.toNat : Nat) : Int) - ((0 : Nat) : Int)) 1
  rw [e2]
  exact Heap.get?_push_size _ rfl
theorem piw_range1 {a : Expr} {ta : TA} {p pos : Pos} (hg : Gl X "range") (hm : X.mg "range" = none) (ha : PA X [a] ta) (hs : starEach [a] X.env = [(false, eval a X.env)] := by rfl) : PIW X tg (.Call (.Name "range" p) [a] [] pos) (iRng1 ta) := by
  refine ⟨fun pins s σ H R I h => ?_⟩
  refine Call_ (ld_blt I hg hm boot_range (PyProof.Rows.callWith_type1 (thn (ha.run pos pins s σ H _ I h) fun us s1 ⟨vs, H1, I1, r1, j, e, q1, q2, q⟩ => ?_) hs rfl))
  subst e
  cases r1 with
  | cons r rr =>
    cases rr
    obtain ⟨t, rfl⟩ := r
    exact call_range_1 (piw_rng I1 q1 q2 q)
/-- something of every block that a comprehension of X opens -/
abbrev InBlk (X : Cx) (scope : Scope) (Y : Cx → Prop) : Prop := ∀ (s : Shared) (H : Hp) (C : Addr) (cl : List (Str × Addr)) (fp : List Addr), Y (X.blk s H scope (compEnvC scope cl C X.env) fp)
/-- the block's cells and its surroundings, opened where the heap is h -/
abbrev blkC (X : Cx) (scope : Scope) (h : Heap) : List (Str × Addr) := cellsFrom (h.objs.size + 1) scope.names (cloFrom X.env.cells scope.names [])
abbrev blkE (X : Cx) (scope : Scope) (h : Heap) : Env := compEnvC scope (blkC X scope h) h.objs.size X.env
abbrev withD (s : Shared) : Shared := { s with heap := s.heap.push { cls := .type "list", data := .seq ([] : List Value).toArray } }
abbrev withB (s : Shared) (scope : Scope) : Shared := { s with heap := pushCells (s.heap.push { cls := .type "dict", data := .dict #[] }) scope.names }
/-- pinned in the def, kept in the block -/
theorem blk_pin {pins pn : List (Addr × Obj)} {σ σ' : L2.St} {H H' : Hp} {s s' : Shared} {scope : Scope} {ce : Env} {fp : List Addr} (I : Inv X pins σ H s) (hfp : ∀ b ∈ fp, FpOk X pins H b ∧ b < s.heap.objs.size) (J : Inv (X.blk s H scope ce fp) pn σ' H' s') {q : Addr × Obj} (hq : q ∈ X.pn) : s'.heap.get? q.1 = some q.2 := by
  have hm : q ∈ X.pn ++ pins := List.mem_append_left _ hq
  obtain ⟨a1, a2, a3, a4, _⟩ := I.pin q hm
  exact J.base.keep q.1 q.2 a1 a2 (fun z => (List.mem_cons.mp (I.stkSub q.1 z)).elim a3 a4) fun z => (hfp q.1 z).1.2.2.2.2.2 q hm rfl
theorem blk_hot {pins pn : List (Addr × Obj)} {σ σ' : L2.St} {H H' : Hp} {s s' : Shared} {scope : Scope} {ce : Env} {fp : List Addr} (hc : HotP X.A X.pn) (I : Inv X pins σ H s) (hfp : ∀ b ∈ fp, FpOk X pins H b ∧ b < s.heap.objs.size) (J : Inv (X.blk s H scope ce fp) pn σ' H' s') : HotW X.A s'.heap := by
  obtain ⟨p, hp, hh, vs, d, r⟩ := hc
  exact ⟨p.1, p.2, vs, hh, blk_pin I hfp J hp, d, r.imp id fun ⟨q, hq, r, ws, d2, c2⟩ => ⟨q.1, q.2, ws, r, blk_pin I hfp J hq, d2, c2⟩⟩
/-- the loop itself: the new list stands at D, the block is open at s4 -/
theorem lc_loopW {pins : List (Addr × Obj)} {s3 s4 : Shared} {σ : L2.St} {H3 : Hp} {Q : VK} {elt iter : Expr} {ifs : List Expr} {scope : Scope} {own : List (Str × Nat)} {pos : Pos} {g : TG} {tt : TT} {te : TE} {ce : Env} {fp : List Addr} {it D : Addr} {tn : Nat → Heap → Prop} {J : It} {W : Nat → Nat → Hp → Prop} {m0 : Nat} {PQ : Result → Shared → Prop}
    (hc : HotP X.A X.pn) (I3 : Inv X pins σ H3 s3) (T : TurnW X.prog X.w X.K tg J fp it tn) (f3 : ∀ b ∈ fp, FpOk X pins H3 b ∧ b < s3.heap.objs.size) (cL : ce.locals = s3.heap.objs.size)
    (pg : PG (X.blk s3 H3 scope ce fp) tg g) (pt : PTs (X.blk s3 H3 scope ce fp) ifs tt) (pe : PE (X.blk s3 H3 scope ce fp) elt te) (I4 : Inv (X.blk s3 H3 scope ce fp) [] (wipe σ (own.map (·.2))) H3 s4) (st4 : tn 0 s4.heap) (w0 : W 0 m0 H3)
    (turn : ∀ i m H, W i m H → (J.stop i H ∧ Q (.ref D) H) ∨ (J.go i H ∧ ∃ Nx : Hp → Prop, (∀ H', Nx H' → ∃ m', m' < m ∧ W (i + 1) m' H') ∧ ∀ x H', J.yld i H x H' → g x (wipe σ (own.map (·.2))) H' fun σ2 H2 => wipe σ2 (own.map (·.2)) = wipe σ (own.map (·.2)) ∧ tt σ2 H2 fun b H3 =>
      if b = true then te σ2 H3 fun y H4 => ∃ acc, H4 D = some (.lst acc) ∧ acc.length < sizeLine ∧ Nx (upd H4 D (.lst (acc ++ [y]))) else Nx H3))
    (fin : ∀ s' m H', Inv X pins σ H' s' → Q (.ref D) H' → s'.heap.Ns s3.heap.objs.size m → FpOk X pins H' s3.heap.objs.size → PQ (.ok .next) s') :
    codeAny (model X.prog X.w) X.A (.compLoop (.ListComp elt [⟨tg, iter, ifs, 0⟩] scope pos) 0 (.ref it) (.ref D) ce) PQ s4 := by
  have own' : ∀ {σ' : L2.St} {H' : Hp} {s' : Shared}, Inv (X.blk s3 H3 scope ce fp) [] σ' H' s' → (∀ b ∈ fp, H' b = none) → ∀ b ∈ fp, FpOk (X.blk s3 H3 scope ce fp) [] H' b := fun I' hn b hb =>
    ⟨hn b hb, (I'.ok.exf b hb).1, I'.ok.exfs b hb, .inl hb, fun x c e => (I'.ok.exf b hb).2 x c e, fun p hp => nomatch (show p ∈ ([] : List (Addr × Obj)) ++ [] from hp)⟩
  refine compLoop_any (fun k s' => ∃ i H', Inv (X.blk s3 H3 scope ce fp) [] (wipe σ (own.map (·.2))) H' s' ∧ tn i s'.heap ∧ (∀ b ∈ fp, H' b = none) ∧ W i k H') ?_ m0 ⟨0, H3, I4, st4, fun b hb => (f3 b hb).1.1, w0⟩
  rintro k u ⟨i, Hu, Iu, stu, nu, wu⟩
  rcases turn i k Hu wu with ⟨stop, hq⟩ | ⟨go, Nx, hN, step⟩
  · refine thnF (T.done (X.blk s3 H3 scope ce fp) rfl rfl rfl i [] u _ Hu (fun _ _ => False) Iu (blk_hot (X := X) hc I3 f3 Iu) (own' Iu nu) stu stop) fun r u2 ⟨hr, I6⟩ => ?_
    subst hr
    have nC : Hu s3.heap.objs.size = none := by rw [← cL]; exact I6.free
    obtain ⟨m, hn, _⟩ := I6.loc
    have hn2 : u2.heap.Ns ce.locals m := hn
    rw [cL] at hn2
    refine fin u2 m Hu (I3.call' (ch := fp) I6.os I6.base I6.hok I6.bare fun b hb => ?_) hq hn2 (I3.fpOk (Nat.le_refl _) nC)
    obtain ⟨_, z1, z2, z3, z4, z5⟩ := (f3 b hb).1
    exact ⟨z3, z1, z4, z5⟩
  · refine thnF (T.item (X.blk s3 H3 scope ce fp) rfl rfl rfl i [] u _ Hu (fun _ _ => False) Iu (own' Iu nu) stu go) fun r u2 ⟨v, hr, h6⟩ => ?_
    subst hr
    refine thnF h6 fun _ u3 ⟨x, H7, I7, r7, y7, st7, n7⟩ => thnF (pg.run _ u3 _ H7 x v _ (I7.pinned (own' I7 n7) (T.obj _ _ st7)) r7 (step x H7 y7)) fun _ u4 ⟨σ8, H8, I8, hw8, q8⟩ => thnF (pt.run _ u4 σ8 H8 _ I8 q8) fun b u5 ⟨H9, I9, q9⟩ => ?_
    have next : ∀ {s' : Shared} {H' : Hp}, Inv (X.blk s3 H3 scope ce fp) ([] ++ pinsAt fp u3.heap) σ8 H' s' → Nx H' → ∃ m, m < k ∧ ∃ i H', Inv (X.blk s3 H3 scope ce fp) [] (wipe σ (own.map (·.2))) H' s' ∧ tn i s'.heap ∧ (∀ b ∈ fp, H' b = none) ∧ W i m H' := fun {s' H'} I' nx => by
      obtain ⟨m', hm, w'⟩ := hN H' nx
      have pin' : ∀ b ∈ fp, ∀ o, u3.heap.get? b = some o → s'.heap.get? b = some o ∧ H' b = none := fun b hb o e => by
        obtain ⟨z1, z2, _⟩ := I'.pin (b, o) (List.mem_append_right _ (List.mem_append_right _ (mem_pinsAt hb e)))
        exact ⟨z1, z2⟩
      refine ⟨m', hm, i + 1, H', (I'.unpinned (pins := [])).weak (by rw [← hw8, wipe_length]) (fun j v e => (wipe_some (by rw [hw8]; exact e)).1), T.keep _ _ _ st7 fun b hb o e => (pin' b hb o e).1, fun b hb => ?_, w'⟩
      obtain ⟨o, e, _⟩ := T.obj _ _ st7 b hb
      exact (pin' b hb o e).2
    cases b with
    | false => exact next I9 (by simpa using q9)
    | true =>
      have q9' : te σ8 H9 fun y H4 => ∃ acc, H4 D = some (.lst acc) ∧ acc.length < sizeLine ∧ Nx (upd H4 D (.lst (acc ++ [y]))) := by simpa using q9
      exact thnF (pe.run _ u5 σ8 H9 _ I9 q9') fun z u6 ⟨yv, H10, I10, r10, acc, hD10, hz10, nx⟩ => app_ok (X := X.blk s3 H3 scope ce fp) I10 hD10 hz10 r10 fun u7 I11 => next I11 nx
/-- [elt for tg in iter if ..] -/
theorem lc_coreW {pins : List (Addr × Obj)} {s : Shared} {σ : L2.St} {H : Hp} {Q : VK} {elt iter : Expr} {ifs : List Expr} {scope : Scope} {own : List (Str × Nat)} {pos pos' : Pos} {wi : TI} {g : TG} {tt : TT} {te : TE} {use : Option (Value → Sem Unit)} {Qf : Value → Shared → Prop}
    (hc : HotP X.A X.pn) (hN : X.N.Nodup) (I : Inv X pins σ H s) (hi : PIW X tg iter wi) (ok : BlkOk X.N X.env.scope scope own) (hg : InBlk X scope fun Y => PG Y tg g) (ht : InBlk X scope fun Y => PTs Y ifs tt) (he : InBlk X scope fun Y => PE Y elt te) (hs : ∀ x, foldedSetIterable iter X.env x = pure x) (h : tLc wi g tt te (own.map (·.2)) σ H Q)
    (last : ∀ D C s' m H', Inv X pins σ H' s' → Q (.ref D) H' → s'.heap.Ns C m → FpOk X pins H' C → compPost (model X.prog X.w) X.A X.xe use Qf (.ref D) C (.ok .next) s') :
    wpAny (model X.prog X.w) X.A (comprehension (.ListComp elt [⟨tg, iter, ifs, 0⟩] scope pos) scope X.env pos' (newList []) false (eval iter X.env) use) Qf X.xe s := by
  have hfree : ∀ y ∈ scope.names, y.2 = .free → ∃ c, X.env.cells.lookup y.1 = some c := fun y hy e => (ok.free y hy e).elim (fun k => I.ok.has _ (.inl k)) fun k => I.ok.has _ (.inr k)
  refine wpAny_comprehension_free (use := use) rfl hs (closure_ok hfree) ok.kind (fun y hy e => by rw [ok.uniq y hy, e]) (thn (hi.run pins s σ H _ I h) fun xv s1 hx => thn hx fun itv s2 ⟨it, fp, tn, J, H2, e, I2, T, st2, f2, q⟩ => ?_)
  rw [e]
  refine wpAny_newObj_type (newEnv_comp ?_) (Nat.zero_le _)
  have hDn : H2 s2.heap.objs.size = none := I2.hok.fresh (Nat.le_refl _)
  obtain ⟨W, ⟨m0, w0⟩, turn⟩ := q _ hDn
  have I3 : Inv X pins σ (upd H2 s2.heap.objs.size (.lst [])) (withD s2) := I2.laid (t' := s2.toks) (fun b o e => Heap.get?_push_of_some _ e) (Nat.le_refl _) ⟨Nat.zero_le _, [], 0, .nil, Heap.get?_push_size _ rfl⟩
  have up : ∀ b o, s2.heap.get? b = some o → (withD s2).heap.get? b = some o := fun b o e => Heap.get?_push_of_some _ e
  have f3 : ∀ b ∈ fp, FpOk X pins (upd H2 s2.heap.objs.size (.lst [])) b ∧ b < (withD s2).heap.objs.size := fun b hb => by
    obtain ⟨o, eo, _⟩ := T.obj _ _ st2 b hb
    have hlt := Heap.lt_size eo
    refine ⟨⟨?_, (f2 b hb).2⟩, Heap.lt_size (up b o eo)⟩
    rw [upd_ne (Nat.ne_of_lt hlt)]
    exact (f2 b hb).1
  have I4 := block_start I3 ok hN f3
  have st4 : tn 0 (withB (withD s2) scope).heap := T.keep _ _ _ st2 fun b _ o e => pushCells_keeps _ _ _ _ (Heap.get?_push_of_some _ (up b o e))
  have loop := lc_loopW (iter := iter) (pos := pos) (PQ := compPost (model X.prog X.w) X.A X.xe use Qf (.ref s2.heap.objs.size) (withD s2).heap.objs.size) hc I3 T f3 (ce := blkE X scope (withD s2).heap) rfl (hg _ _ _ _ _) (ht _ _ _ _ _) (he _ _ _ _ _) I4 st4 w0 turn fun s' m H' I' hq hn f => last _ _ s' m H' I' hq hn f
  exact codeAny_compStart_list loop (T.self X.A 0 _ _ _ st4 loop)
theorem pe_lcW {elt iter : Expr} {ifs : List Expr} {scope : Scope} {own : List (Str × Nat)} {pos : Pos} {wi : TI} {g : TG} {tt : TT} {te : TE} (hc : HotP X.A X.pn) (hN : X.N.Nodup) (hi : PIW X tg iter wi) (ok : BlkOk X.N X.env.scope scope own) (hg : InBlk X scope fun Y => PG Y tg g) (ht : InBlk X scope fun Y => PTs Y ifs tt) (he : InBlk X scope fun Y => PE Y elt te)
    (hs : ∀ x, foldedSetIterable iter X.env x = pure x := by intro _; rfl) : PE X (.ListComp elt [⟨tg, iter, ifs, 0⟩] scope pos) (tLc wi g tt te (own.map (·.2))) := ⟨fun pins s σ H Q I h => by
  rw [eval_ListComp]
  refine lc_coreW hc hN I hi ok hg ht he hs h fun D C s' m H' I' q hn ⟨f0, f1, f2, f3, f4, f5⟩ => ⟨m, hn, fun h'' sb => ⟨.ref D, H', ?_, rfl, q⟩⟩
  exact I'.turned (t' := s'.toks) (fun b o hb e => (sb.2 b hb).trans e) f0 f1 f3 f4 f5⟩
end
end Sl
/-! ## SlXr -/
/-! ### an exception whose context is told -/
namespace Xr
open PySem PySem.Spec PyProof.Rows L2 HotX
abbrev St := L2.St
def Zk (c cls : Value) (d : Option Addr) : Obj → Prop := fun o => o.cls = cls ∧ o.dict = d ∧ ∀ vs : Array Value, o.data = .fields vs → vs[2]? = some c
theorem Zk.steady {c cls : Value} {d : Option Addr} : PXN.Steady1 (Zk c cls d) := fun o v h => by
  refine ⟨PXN.steady_cls o v h.1, PXN.steady_dict o v h.2.1, fun vs e => ?_⟩
  obtain ⟨c0, d0, da, sl⟩ := o
  cases da with
  | fields us =>
    have e2 : Data.fields (us.setIfInBounds 1 v) = Data.fields vs := e
    injection e2 with e2
    subst e2
    have z := h.2.2 us rfl
    first
    | (rw [Array.getElem?_setIfInBounds_ne (by decide)]; exact z)
    | simpa [Array.getElem?_setIfInBounds] using z
  | _ => cases e
/-- the context c: None, or one on the ground whose own is None -/
def Ctx (B : Heap) (H : Hp) (c : Value) : Prop := c = .none ∨ ∃ (y : Addr) (p : Obj) (ws : Array Value), c = .ref y ∧ B.get? y = some p ∧ H y = none ∧ p.data = .fields ws ∧ ws[2]? = some .none
def XE (X : Cx) (W : WX) (u : Value) (s' : Shared) : Prop :=
  ∃ (a : Addr) (B : Heap) (sI : Shared) (pins : List (Addr × Obj)) (σ : St) (H : Hp) (cls : Value) (d : Option Addr) (c : Value),
    u = .ref a ∧ Inv X pins σ H sI ∧ (∀ b o, sI.heap.get? b = some o → b ∉ frs X.stack → B.get? b = some o) ∧ sI.heap.UpToSlots s'.heap ∧
      Sky B X.stack a (Zk c cls d) X.env.locals s'.heap ∧ H a = none ∧ s'.os = sI.os ∧ AllBare s'.gens ∧ Ctx B H c ∧ W cls d σ H
def Takes (X : Cx) (W : WX) : Prop := ∀ u s', XE X W u s' → X.xe u s'
theorem Takes.imp {X : Cx} {W W' : WX} (t : Takes X W) (h : ∀ c d σ H, W' c d σ H → W c d σ H) : Takes X W' := fun u s' ⟨a, B, sI, pins, σ, H, cls, d, c, e, I, nb, up, sky, na, os, ag, cx, w⟩ => t u s' ⟨a, B, sI, pins, σ, H, cls, d, c, e, I, nb, up, sky, na, os, ag, cx, h _ _ _ _ w⟩
def CX (P : Program) (w : World) (outer : List Env) (H : Hp) (s : Shared) (E : XK) (u : Value) (s' : Shared) : Prop :=
  ∃ (a : Addr) (B : Heap) (H' : Hp) (cls : Value) (d : Option Addr) (c : Value), u = .ref a ∧ HandSPX.FlyingZ B outer a (Zk c cls d) s'.heap ∧ HOk P w H' B ∧ UB (frs outer) H H' s.heap B s'.heap ∧ H' a = none ∧ s'.os = s.os ∧ AllBare s'.gens ∧ Ctx B H' c ∧ E cls d H'
theorem CX.ofN {P : Program} {w : World} {outer : List Env} {H : Hp} {s : Shared} {E : XK} {u : Value} {s' : Shared} (x : L2N.CX P w outer H s E u s') : CX P w outer H s E u s' := by
  obtain ⟨a, B, H', cls, d, e, fl, hok, ub, na, os, ag, q⟩ := x
  exact ⟨a, B, H', cls, d, .none, e, L2H.flyingZ_imp (fun o z => ⟨z.1, z.2.1, z.2.2⟩) fl, hok, ub, na, os, ag, .inl rfl, q⟩
section
variable {X : Cx} {pins : List (Addr × Obj)} {σ : St} {H : Hp} {sI s s' : Shared} {B : Heap} {W : WX} {E : XK}
theorem XE.of_call (I : Inv X pins σ H s) (hW : ∀ cls d H', E cls d H' → W cls d σ H') {u : Value} (x : CX X.prog X.w X.stack H s E u s') : XE X W u s' := by
  obtain ⟨a, B, H', cls, d, c, rfl, fl, hok, ub, na, os, ag, cx, hE⟩ := x
  obtain ⟨G, g1, g2⟩ := restrict s'.heap fun b => (B.get? b).isSome || decide (b ∈ frs X.stack)
  have gB : ∀ b o, B.get? b = some o → G.get? b = some o := fun b o e => (g1 b (by simp [e])).trans (fl.1 b o e)
  have gF : ∀ b, b ∈ frs X.stack → G.get? b = s'.heap.get? b := fun b hb => g1 b (by simp [hb])
  have og : ∀ b o, G.get? b = some o → s'.heap.get? b = some o ∧ ((B.get? b).isSome = true ∨ b ∈ frs X.stack) := fun b o e => by
    cases q : ((B.get? b).isSome || decide (b ∈ frs X.stack)) with
    | false => rw [g2 b q] at e; cases e
    | true => exact ⟨(g1 b q).symm.trans e, by simpa [Bool.or_eq_true] using q⟩
  have J : Inv X pins σ H' { s with heap := G, gens := s'.gens, drawn := s'.drawn, toks := s'.toks } := by
    refine I.call (ch := []) ⟨fun b o e n hb _ => gB b o (ub.keep b o e n hb), fun b o e n hb _ => ?_, fun b o e n _ => ub.free b o e n, fun b o e _ => ?_, ub.tups, ub.frzs, ub.tbls⟩ (hok.kept gB) ag (fun _ z => nomatch z)
    · obtain ⟨sl, q⟩ := ub.slot b o e hb
      exact ⟨sl, (gF b hb).trans q⟩
    · by_cases hb : b ∈ frs X.stack
      · obtain ⟨sl, q⟩ := ub.slot b o e hb
        exact ⟨_, (gF b hb).trans q⟩
      · obtain ⟨o', q⟩ := ub.there b o e hb
        exact ⟨o', gB b o' q⟩
  refine ⟨a, B, _, pins, σ, H', cls, d, c, rfl, J, fun b o e hb => ?_, Heap.UpToSlots.of_keeps fun b o e => (og b o e).1, .inr (.inl fl), na, os, ag, cx, hW _ _ _ hE⟩
  obtain ⟨e', h⟩ := og b o e
  rcases h with h | h
  · obtain ⟨o', q⟩ := Option.isSome_iff_exists.mp h
    have z := fl.1 b o' q
    rw [e'] at z; cases z
    exact q
  · exact absurd h hb
theorem XE.new {a : Addr} {oe : Obj} {vs : Array Value} {cls c : Value} {d : Option Addr} (I : Inv X pins σ H sI) (k : ∀ b o, sI.heap.get? b = some o → s'.heap.get? b = some o) (hne : sI.heap.get? a = none) (he : s'.heap.get? a = some oe)
    (hz : Zk c cls d oe) (hd : oe.data = .fields vs) (h1 : vs[1]? = some .none) (na : H a = none) (os : s'.os = sI.os) (ag : AllBare s'.gens) (cx : Ctx (PySem.W.hideAll sI.heap (frs X.stack)) H c) (w : W cls d σ H) : XE X W (.ref a) s' := by
  have hn : (PySem.W.hideAll sI.heap (frs X.stack)).get? a = none := by
    cases q : (PySem.W.hideAll sI.heap (frs X.stack)).get? a with
    | none => rfl
    | some o =>
      have z := PySem.W.of_hideAll _ q
      rw [hne] at z; cases z
  exact ⟨a, PySem.W.hideAll sI.heap (frs X.stack), sI, pins, σ, H, cls, d, c, rfl, I, fun b o e hb => PySem.W.hideAll_get _ e hb, Heap.UpToSlots.of_keeps k,
    .inl ⟨fun b o e => k b o (PySem.W.of_hideAll _ e), hn, Heap.FunFrames.of_keeps (fun b o e _ => ⟨o, k b o e, rfl⟩) (funFrames_none I.stack fun b hb => PySem.W.hideAll_none _ hb), oe, vs, he, hz, hd, h1⟩, na, os, ag, cx, w⟩
theorem XE.leave (hs : X.stack = X.env :: X.outer) (hf : X.env.frame = some X.env.locals) (hex : X.ex = []) {E₁ : Value → Shared → Prop} (hW : ∀ cls d σ H, W cls d σ H → E cls d H) {u : Value} (x : XE X W u s') :
    wpAny (model X.prog X.w) X.A (leaving X.env u) (fun _ s'' => CX X.prog X.w X.outer X.H_0 X.s_0 E u s'') E₁ s' := by
  obtain ⟨a, B, sI, pins, σ, H, cls, d, c, rfl, I, nb, up, sky, na, os, ag, cx, w⟩ := x
  have hfr : X.A.frames = some (X.env :: X.outer) := by rw [I.ok.frames, hs]
  have hex' : ∀ b, b ∉ X.ex := by rw [hex]; exact fun b hb => nomatch hb
  have nst : ∀ b o, X.s_0.heap.get? b = some o → b ∉ X.fs → b ∉ frs X.stack := fun b o e hb hm => by
    rcases List.mem_cons.mp (I.stkSub b hm) with z | z
    · have h1 := Heap.lt_size e
      rw [z] at h1
      exact absurd (Nat.lt_of_lt_of_le h1 I.ok.above) (Nat.lt_irrefl _)
    · exact hb z
  have fin : ∀ h', HandSPX.FlyingZ B X.outer a (Zk c cls d) h' → s'.heap.UpToSlots h' → CX X.prog X.w X.outer X.H_0 X.s_0 E (.ref a) { s' with heap := h' } := fun h' fl up' => by
    refine ⟨a, B, H, cls, d, c, rfl, fl, I.inGround nb, ⟨fun b o e n hb => nb b o (I.base.keep b o e n hb (hex' b)) (nst b o e hb), fun b o e hb => ?_, fun b o e n => I.base.free b o e n (hex' b), fun b o e hb => ?_, I.base.tups, I.base.frzs, I.base.tbls⟩, na, os.trans I.os, ag, cx, hW _ _ _ _ w⟩
    · obtain ⟨_, o₀, e₀, hnf⟩ := I.ok.funs.mem hb
      rw [e] at e₀; cases e₀
      obtain ⟨sl, e1⟩ := I.base.slot b o e (I.ok.frf b hb) hb (hex' b)
      obtain ⟨sl2, e2⟩ := up b _ e1 hnf
      obtain ⟨sl3, e3⟩ := up' b _ e2 hnf
      exact ⟨sl3, e3⟩
    · obtain ⟨o', e1⟩ := I.base.there b o e (hex' b)
      exact ⟨o', nb b o' e1 (nst b o e hb)⟩
  rw [hs] at sky
  rcases sky with ⟨hB, hn, hl, oe, vs, he, hz, hd, h1⟩ | fl | hd
  · exact PXN.leaving_firstZ Zk.steady hfr hl hf he hB hn hd h1 hz fin
  · exact PXN.leaves_onZ Zk.steady hfr hf fl fin
  · exact HandSPX.leaves_heldZ hf hd fin
theorem takes_of (hs : X.stack = X.env :: X.outer) (hf : X.env.frame = some X.env.locals) (hex : X.ex = []) {E₁ : Value → Shared → Prop}
    (hx : X.xe = fun e s' => wpAny (model X.prog X.w) X.A (leaving X.env e) (fun _ s'' => CX X.prog X.w X.outer X.H_0 X.s_0 E e s'') E₁ s') : Takes X (fun cls d _ H => E cls d H) := fun u s' x => by
  rw [hx]
  exact XE.leave (W := fun cls d _ H => E cls d H) (E := E) hs hf hex (fun _ _ _ _ h => h) x
theorem passes_call (tk : Takes X W) (hW : ∀ cls d σ H, E cls d H → W cls d σ H) : ∀ (pins : List (Addr × Obj)) (σ : St) (H : Hp) (s : Shared) (e : Value) (s' : Shared), Inv X pins σ H s → CX X.prog X.w X.stack H s E e s' → X.xe e s' :=
  fun _ σ _ _ e s' I x => tk e s' (XE.of_call I (fun cls d H' h => hW cls d σ H' h) x)
/-- from a callee whose exceptions have no context -/
theorem passesN (tk : Takes X W) (hW : ∀ cls d σ H, E cls d H → W cls d σ H) : ∀ (pins : List (Addr × Obj)) (σ : St) (H : Hp) (s : Shared) (e : Value) (s' : Shared), Inv X pins σ H s → L2N.CX X.prog X.w X.stack H s E e s' → X.xe e s' :=
  fun pins σ H s e s' I x => passes_call tk hW pins σ H s e s' I (CX.ofN x)
end
/-! ### raise within an except suite -/
theorem ps_raiseW {X : Cx} {W : WX} {e : Expr} {t : St → Hp → XK → Prop} {pos : Pos} (hc : L2H.HotC X) (tk : Takes X W) (he : L2N.PMk X e t) : PS X (.Raise (some e) none pos) (fun _ σ H => t σ H fun cls d H' => W cls d σ H') := by
  refine ⟨fun pins s σ H D I h => ?_⟩
  obtain ⟨p, ⟨hh, v1, e1, c1⟩, hp⟩ := hc
  show wpAny _ _ (do standAt pos; raiseStmt X.env (some (do let v ← eval e X.env; standAt pos; pure v)) none) _ _ _
  refine wpAny_bind (wpAny_standAt (raise_made_hot (x1 := p.1) (wpAny_bind (wpAny_mono (he pins s σ H _ I h) (fun u s1 hu => wpAny_bind (wpAny_standAt (wpAny_pure ?_))) fun _ _ x => x))))
  obtain ⟨a, oe, vs, sI, H', cls, d, rfl, J, k, hne, ha, hz, hd, h1, na, os, ag, r, q⟩ := hu
  obtain ⟨r1, r2⟩ := r (model X.prog X.w) s1.heap (J.kIn.keeps k)
  obtain ⟨P1, P2, P3, P4, P5⟩ := J.pin p (List.mem_append_left _ hp)
  have nap : p.1 ≠ a := fun z => by rw [z, hne] at P1; cases P1
  have hi : 2 < vs.size := (Array.getElem?_eq_some_iff.mp (hz.2.2 vs hd)).1
  have e3 : (vs.setIfInBounds 2 (Value.ref p.1))[1]? = some Value.none := by
    rw [← h1]
    first
    | exact Array.getElem?_setIfInBounds_ne (by decide)
    | simp [Array.getElem?_setIfInBounds]
  have nfp : p.1 ∉ frs X.stack := fun hm => (List.mem_cons.mp (J.stkSub p.1 hm)).elim P3 P4
  have hdm := Obj.data_mapFields hd fun z => z.setIfInBounds 2 (Value.ref p.1)
  refine ⟨a, oe, vs, cls, rfl, ha, hz.1, hd, h1, hi, nap, ⟨hh, p.2, v1, k _ _ P1, e1, c1⟩, r1, r2, tk _ _ (XE.new (c := .ref p.1) J (fun b u z => ?_) hne (Heap.get?_update_self _ ha (Obj.isFreed_of_fields hdm)) ⟨(Obj.cls_mapFields ..).trans hz.1, (HandSPX.dict_mapFields ..).trans hz.2.1, fun us q => ?_⟩ hdm e3 na os ag (.inr ⟨p.1, p.2, v1, rfl, PySem.W.hideAll_get _ P1 nfp, P2, e1, c1⟩) q)⟩
  · have nab : a ≠ b := fun y => by rw [← y, hne] at z; cases z
    show (s1.heap.update a (Obj.mapFields (·.setIfInBounds 2 (.ref p.1)))).get? b = some u
    exact (Heap.get?_update_other _ _ nab).trans (k b u z)
  · rw [hdm] at q
    cases q
    first
    | exact Array.getElem?_setIfInBounds_self_of_lt hi
    | simp [hi]
end Xr
/-! ## SlTry -/
/-! ### two ways of try -/
namespace Xr
open PySem PySem.Spec PyProof.Rows L2 HotX
/-- every exception of the suite is of the class; the clause's suite may raise -/
def wOnlyT (K : PySem.W.Frag) (c : Value) (ts : TS) (D : Ends) : WX := fun cls _ σ H => PySem.W.exmOne K cls c = some true ∧ ts D σ H
/-- .. its object a, with the name in slot i -/
def wAsT (K : PySem.W.Frag) (c : Value) (i : Nat) (ts : List (Addr × Obj) → TS) (D : Ends) : WX := fun cls d σ H => PySem.W.exmOne K cls c = some true ∧ ∀ (a : Addr) (oe : Obj) (pn : List (Addr × Obj)), (a, oe) ∈ pn → oe.cls = cls → oe.dict = d → (∃ vs, oe.data = .fields vs) →
  ts pn { nx := fun σ' => D.nx (σ'.set i none), rt := D.rt, bk := fun σ' => D.bk (σ'.set i none), ct := fun σ' => D.ct (σ'.set i none) } (σ.set i (some (.ref a))) H
section
variable {X : Cx} {x n : Str} {c : Value} {i : Nat} {body suite : List Stmt} {b₀ : Stmt} {np pos pos' : Pos} {rest : List ExceptHandler} {tb : WX → TS} {Wout : WX}
theorem notFrm {B h : Heap} {l : List Env} {a : Addr} {o : Obj} {vs : Array Value} (ff : h.FunFrames B l) (e : h.get? a = some o) (dd : o.data = .fields vs) : a ∉ frs l := fun hm => by
  obtain ⟨_, o', e', hnf⟩ := ff.mem hm
  rw [e] at e'; cases e'
  exact hnf _ dd
theorem out_frs {X : Cx} {a : Addr} (hf : X.env.frame = some X.env.locals) (h : a ∉ frs (X.env :: X.outer)) : a ≠ X.env.locals ∧ a ∉ X.fs :=
  ⟨fun z => h (List.mem_filterMap.mpr ⟨X.env, List.mem_cons_self, by rw [hf, z]⟩), fun hm => by
    obtain ⟨e, he, q⟩ := List.mem_filterMap.mp hm
    exact h (List.mem_filterMap.mpr ⟨e, List.mem_cons_of_mem _ he, q⟩)⟩
/-- the clause's class, looked up where the exception a is handled -/
theorem clause_name {X : Cx} {a : Addr} {pn pins : List (Addr × Obj)} {σ : St} {H : Hp} {s : Shared} {x : Str} {c : Value} {np : Pos} {Q E : Value → Shared → Prop} (S : Inv (X.suite a pn) pins σ H s) (hc : Names X x c) (q : Q c s) : wpAny (model X.prog X.w) (X.A.mark (some (.ref a))) (eval (.Name x np) X.env) Q E s := by
  obtain ⟨g, n, z⟩ := hc
  rcases z with z | ⟨z1, z2, z3⟩
  · exact ld_glob (X := X.suite a pn) S g z q n
  · exact ld_blt (X := X.suite a pn) S g z1 z2 q z3 n
theorem ps_try_onlyW {ts : TS} (hs : X.stack = X.env :: X.outer) (hf : X.env.frame = some X.env.locals) (hc : Names X x c) (hpa : ∀ hd : Option Value, PassesOwnAt (model X.prog X.w) (X.A.mark hd) X.A X.env X.xe) (tk : Takes X Wout)
    (hb : ∀ (W : WX) (pn : List (Addr × Obj)) (xe : Value → Shared → Prop), L2N.Takes (X.tr pn xe) W → PassesOwn (model X.prog X.w) X.A X.env xe → PSs (X.tr pn xe) body (tb W))
    (hsu : ∀ (a : Addr) (oe : Obj) (pn : List (Addr × Obj)), Takes (L2H.suiteX X a ((a, oe) :: pn)) Wout → L2H.HotC (L2H.suiteX X a ((a, oe) :: pn)) → PSs (L2H.suiteX X a ((a, oe) :: pn)) (b₀ :: suite) ts) :
    PS X (.Try body [.ExceptHandler (some (.Name x np)) none (b₀ :: suite) pos'] [] [] pos) (fun D σ H => tb (wOnlyT X.K c ts D) D σ H) := by
  refine ⟨fun pins s σ H D I h => ?_⟩
  have ok := I.ok
  have hfr : X.A.frames = some (X.env :: X.outer) := by rw [ok.frames, hs]
  refine wpAny_Try_except ?_
  refine wpAny_mono ((hb (wOnlyT X.K c ts D) (X.pn ++ pins) _ (fun u s' xx => ?_) PassesOwn.looking).run [] s σ H D (I.toTry _) h) (fun f s1 hsp => ?_) (fun e s1 he => he)
  · obtain ⟨a, B, sI, pins', σ', H', cls, d, rfl, J', nb, up, sky, na, os, ag, hb1, w⟩ := xx
    have J : Inv X pins σ' H' sI := J'.ofTry ok
    have sky' : Sky B (X.env :: X.outer) a (L2N.Zn cls d) X.env.locals s'.heap := by rw [← hs]; exact sky
    show wpAny (model X.prog X.w) X.A (noteFrame (.ref a) X.env) _ _ _
    refine L2N.Sky.land L2N.Zn.steady hfr hf sky' fun h3 fl3 up3 => ?_
    have J3 : Inv X pins σ' H' { s' with heap := h3 } := J.landed nb fl3.1 (up.trans up3) os ag
    obtain ⟨oe3, vs3, he3, hz3, hd3⟩ := fl3.there
    obtain ⟨nL, nF⟩ := out_frs hf (notFrm fl3.2.2.1 he3 hd3)
    have S3 := J3.suite he3 hd3 na nL nF
    refine wpAny_handleBy_cons (codeAny_handlers_test ?_) (by intro q; cases q)
    have LT : PySem.W.Looks (model X.prog X.w) h3 (typeOf (.ref a)) cls := fun A Q E s k q => wpAny_typeOf_ref (k _ _ he3) (by rw [hz3.1]; exact q)
    have LM := PySem.W.exm_one (M := model X.prog X.w) J3.kIn LT hb1
    refine clause_name S3 hc (LM.here (codeAny_handlers_suite (HandSPX.lands_againZ fl3 fun h4 fl4 up4 => ?_)))
    have J4 : Inv X pins σ' H' { s' with heap := h4 } := J.landed nb fl4.1 ((up.trans up3).trans up4) os ag
    obtain ⟨oe4, vs4, he4, hz4, hd4⟩ := fl4.there
    have S4 := J4.suite he4 hd4 na nL nF
    have tkS : Takes (L2H.suiteX X a ((a, oe4) :: (X.pn ++ pins))) Wout := fun u2 s2 x2 => by
      obtain ⟨a2, B2, sI2, pn2, σ2, H2, cls2, d2, c2, e2, I2, nb2, up2, sky2, na2, os2, ag2, cx2, w2⟩ := x2
      exact tk u2 s2 ⟨a2, B2, sI2, pins, σ2, H2, cls2, d2, c2, e2, L2H.unsuiteX I2 ok, nb2, up2, sky2, na2, os2, ag2, cx2, w2⟩
    have hot : L2H.HotC (L2H.suiteX X a ((a, oe4) :: (X.pn ++ pins))) := ⟨(a, oe4), ⟨rfl, vs4, hd4, hz4.2.2 vs4 hd4⟩, List.mem_cons_self⟩
    refine wpAny_mono ((hsu a oe4 (X.pn ++ pins) tkS hot).run [] _ _ H' _ (L2H.suiteX_of S4) w) (fun f s6 hsp => ?_) (fun e6 s6 z => hpa (some (.ref a)) e6 s6 z)
    cases f with
    | next => obtain ⟨σ6, H6, S6, q6⟩ := hsp; exact ⟨_, _, L2H.unsuiteX S6 ok, q6⟩
    | brk => obtain ⟨σ6, H6, S6, q6⟩ := hsp; exact ⟨_, _, L2H.unsuiteX S6 ok, q6⟩
    | cont => obtain ⟨σ6, H6, S6, q6⟩ := hsp; exact ⟨_, _, L2H.unsuiteX S6 ok, q6⟩
    | ret u => obtain ⟨v6, σ6, H6, S6, r6, q6⟩ := hsp; exact ⟨_, _, _, L2H.unsuiteX S6 ok, r6, q6⟩
  · cases f with
    | next => obtain ⟨σ', H', J', q⟩ := hsp; exact wpAny_execs_nil ⟨σ', H', J'.ofTry ok, q⟩
    | brk => obtain ⟨σ', H', J', q⟩ := hsp; exact ⟨σ', H', J'.ofTry ok, q⟩
    | cont => obtain ⟨σ', H', J', q⟩ := hsp; exact ⟨σ', H', J'.ofTry ok, q⟩
    | ret u => obtain ⟨v, σ', H', J', r, q⟩ := hsp; exact ⟨v, σ', H', J'.ofTry ok, r, q⟩
/-- one pin more -/
theorem Inv.pinMore {X : Cx} {pins : List (Addr × Obj)} {σ : St} {H : Hp} {s : Shared} {q : Addr × Obj} (I : Inv X pins σ H s) (h : s.heap.get? q.1 = some q.2 ∧ H q.1 = none ∧ q.1 ≠ X.env.locals ∧ q.1 ∉ X.fs ∧ ∀ v, q.2.data ≠ .cell v) : Inv { X with pn := q :: X.pn } pins σ H s :=
  ⟨⟨I.ok.mod, I.ok.kind, I.ok.glob, I.ok.blt, I.ok.above, I.ok.inj, I.ok.has, I.ok.cab, I.ok.hd, I.ok.frames, I.ok.stk, I.ok.exf, I.ok.bs, I.ok.bsz, I.ok.noex, I.ok.exfs, I.ok.funs, I.ok.frf⟩, I.os, I.bare, I.base, I.loc, I.cell, I.free, I.freeC,
    fun p hp => (List.mem_cons.mp (show p ∈ q :: (X.pn ++ pins) from hp)).elim (fun e => by rw [e]; exact h) fun e => I.pin p e, I.hok, I.len⟩
theorem ps_try_asW {ts : List (Addr × Obj) → TS} (hs : X.stack = X.env :: X.outer) (hf : X.env.frame = some X.env.locals) (hN : X.N.Nodup) (hi : X.N[i]? = some n) (hln : X.env.kindOf n = some .local) (hc : Names X x c)
    (hb : ∀ (W : WX) (pn : List (Addr × Obj)) (xe : Value → Shared → Prop), Takes (X.tr pn xe) W → PassesOwn (model X.prog X.w) X.A X.env xe → PSs (X.tr pn xe) body (tb W))
    (hsu : ∀ (a : Addr) (pn : List (Addr × Obj)), Sl.HotP (X.A.mark (some (.ref a))) pn → PSs (X.suite a pn) (b₀ :: suite) (ts pn)) :
    PS X (.Try body (.ExceptHandler (some (.Name x np)) (some n) (b₀ :: suite) pos' :: rest) [] [] pos) (fun D σ H => tb (wAsT X.K c i ts D) D σ H) := by
  refine ⟨fun pins s σ H D I h => ?_⟩
  have ok := I.ok
  have hfr : X.A.frames = some (X.env :: X.outer) := by rw [ok.frames, hs]
  have hloc : Loc X.env.scope n := .inl hln
  refine wpAny_Try_except ?_
  refine wpAny_mono ((hb (wAsT X.K c i ts D) (X.pn ++ pins) _ (fun u s' xx => ?_) PassesOwn.looking).run [] s σ H D (I.toTry _) h) (fun f s1 hsp => ?_) (fun e s1 he => he)
  · obtain ⟨a, B, sI, pins', σ', H', cls, d, cc, rfl, J', nb, up, sky, na, os, ag, cx, hb1, w⟩ := xx
    have J : Inv X pins σ' H' sI := J'.ofTry ok
    have sky' : Sky B (X.env :: X.outer) a (Zk cc cls d) X.env.locals s'.heap := by rw [← hs]; exact sky
    show wpAny (model X.prog X.w) X.A (noteFrame (.ref a) X.env) _ _ _
    refine L2N.Sky.land Zk.steady hfr hf sky' fun h3 fl3 up3 => ?_
    have J3 : Inv X pins σ' H' { s' with heap := h3 } := J.landed nb fl3.1 (up.trans up3) os ag
    obtain ⟨oe3, vs3, he3, hz3, hd3⟩ := fl3.there
    obtain ⟨nL, nF⟩ := out_frs hf (notFrm fl3.2.2.1 he3 hd3)
    have S3 := J3.suite he3 hd3 na nL nF
    refine wpAny_handleBy_cons (codeAny_handlers_test ?_) (by intro q; cases q)
    have LT : PySem.W.Looks (model X.prog X.w) h3 (typeOf (.ref a)) cls := fun A Q E s k q => wpAny_typeOf_ref (k _ _ he3) (by rw [hz3.1]; exact q)
    have LM := PySem.W.exm_one (M := model X.prog X.w) J3.kIn LT hb1
    refine clause_name S3 hc (LM.here (codeAny_handlers_suite_as (HandSPX.lands_againZ fl3 fun h4 fl4 up4 => ?_)))
    have J4 : Inv X pins σ' H' { s' with heap := h4 } := J.landed nb fl4.1 ((up.trans up3).trans up4) os ag
    obtain ⟨oe4, vs4, he4, hz4, hd4⟩ := fl4.there
    have S4 := J4.suite he4 hd4 na nL nF
    -- the pins: the exception, its context
    obtain ⟨pn, hpn, hot, S5⟩ : ∃ pn : List (Addr × Obj), (a, oe4) ∈ pn ∧ Sl.HotP (X.A.mark (some (.ref a))) pn ∧ ((∀ {pn2 σ6 H6 s6}, Inv (X.suite a pn) pn2 σ6 H6 s6 → Inv X pins σ6 H6 s6) ∧ Inv (X.suite a pn) [] σ' H' { s' with heap := h4 }) := by
      have hc2 := hz4.2.2 vs4 hd4
      rcases cx with rfl | ⟨y, p, ws, rfl, hy, hn, hw, h2⟩
      · exact ⟨_, List.mem_cons_self, ⟨(a, oe4), List.mem_cons_self, rfl, vs4, hd4, .inl hc2⟩, fun {pn2 σ6 H6 s6} S => S.unsuite ok, S4⟩
      · have hy4 : h4.get? y = some p := fl4.1 _ _ hy
        obtain ⟨yL, yF⟩ := out_frs hf (notFrm fl4.2.2.1 hy4 hw)
        refine ⟨(y, p) :: (a, oe4) :: (X.pn ++ pins), List.mem_cons_of_mem _ List.mem_cons_self, ⟨(a, oe4), List.mem_cons_of_mem _ List.mem_cons_self, rfl, vs4, hd4, .inr ⟨(y, p), List.mem_cons_self, hc2, ws, hw, h2⟩⟩, fun {pn2 σ6 H6 s6} S => ?_, Inv.pinMore (X := X.suite a ((a, oe4) :: (X.pn ++ pins))) S4 ⟨hy4, hn, yL, yF, fun v z => by rw [hw] at z; cases z⟩⟩
        have S' : Inv (X.suite a ((a, oe4) :: (X.pn ++ pins))) pn2 σ6 H6 s6 :=
          ⟨⟨S.ok.mod, S.ok.kind, S.ok.glob, S.ok.blt, S.ok.above, S.ok.inj, S.ok.has, S.ok.cab, S.ok.hd, S.ok.frames, S.ok.stk, S.ok.exf, S.ok.bs, S.ok.bsz, S.ok.noex, S.ok.exfs, S.ok.funs, S.ok.frf⟩, S.os, S.bare, S.base, S.loc, S.cell, S.free, S.freeC,
            fun q hq => S.pin q (List.mem_cons_of_mem _ hq), S.hok, S.len⟩
        exact S'.unsuite ok
    obtain ⟨unS, S5⟩ := S5
    refine store_ok (X := X.suite a pn) (v := .ref a) S5 hN hi hloc rfl (fun s5 S6 => ?_) (.inr hln)
    refine wpAny_mono ((hsu a pn hot).run [] s5 _ H' _ S6 (w a oe4 pn hpn hz4.1 hz4.2.1 ⟨_, hd4⟩)) (fun f s6 hsp => ?_) (fun _ _ z => False.elim z)
    have end_ : ∀ {σ6 : St} {H6 : Hp} {Q : Shared → Prop}, Inv (X.suite a pn) [] σ6 H6 s6 → (∀ s7, Inv X pins (σ6.set i none) H6 s7 → Q s7) →
        wpAny (model X.prog X.w) X.A (do bindName X.env n .none; unbindBehindTheSuite X.env n pos') (fun _ s7 => Q s7) X.xe s6 := fun {σ6 H6 Q} S7 hq => gone_ok (unS S7) hN hi hln hq
    cases f with
    | next => obtain ⟨σ6, H6, S7, q6⟩ := hsp; exact end_ S7 fun s7 J7 => ⟨_, _, J7, q6⟩
    | brk => obtain ⟨σ6, H6, S7, q6⟩ := hsp; exact end_ S7 fun s7 J7 => ⟨_, _, J7, q6⟩
    | cont => obtain ⟨σ6, H6, S7, q6⟩ := hsp; exact end_ S7 fun s7 J7 => ⟨_, _, J7, q6⟩
    | ret u => obtain ⟨v6, σ6, H6, S7, r6, q6⟩ := hsp; exact end_ S7 fun s7 J7 => ⟨_, _, _, J7, r6, q6⟩
  · cases f with
    | next => obtain ⟨σ', H', J', q⟩ := hsp; exact wpAny_execs_nil ⟨σ', H', J'.ofTry ok, q⟩
    | brk => obtain ⟨σ', H', J', q⟩ := hsp; exact ⟨σ', H', J'.ofTry ok, q⟩
    | cont => obtain ⟨σ', H', J', q⟩ := hsp; exact ⟨σ', H', J'.ofTry ok, q⟩
    | ret u => obtain ⟨v, σ', H', J', r, q⟩ := hsp; exact ⟨v, σ', H', J'.ofTry ok, r, q⟩
end
end Xr
/-! ## SlHot3 -/
namespace Sl
open PySem PySem.Spec PyProof.Rows L2 HotX
/-! ### defs called while an exception is handled -/
structure FnW (P : Program) (w : World) (K : PySem.W.Frag) (mg : Str → Option Value) (base : Heap) (CX : CXT) (k : Nat) (f : Addr) (fd : FuncData) (ps : List Str) (sp : List (Addr × Obj) → Sp) : Prop where
  len : ∀ pn vs H Q E, sp pn vs H Q E → vs.length = ps.length
  run : ∀ (A : Around) (outer : List Env) (s : Shared) (H : Hp) (args : Args) (us : List Value) (vs : List V) (Q : VK) (E : XK) (pn : List (Addr × Obj)), L2H.RoomH k A → HotP A pn → (∀ p ∈ pn, L2H.PinOk outer H s p) → Env0 P w K mg base A outer s H → BindsTo s fd args (ps.zip us) → Vals vs us → sp pn vs H Q E →
    codeAny (model P w) A (.call (.ref f) args) (CR CX outer P w H s Q E) s
def cxW (CX : CXT) (P : Program) (w : World) (K : PySem.W.Frag) (mg : Str → Option Value) (base : Heap) (N : List Str) (qual : Str) (scope : Scope) (f : Addr) (cd : Value) (A : Around) (outer : List Env) (s : Shared) (H : Hp) (E : XK) (pn : List (Addr × Obj)) : Cx :=
  { cxOf CX P w K mg base N qual scope f cd A outer s H E with calm := false, pn := pn }
section
variable {P : Program} {w : World} {K : PySem.W.Frag} {mg : Str → Option Value} {base : Heap} {CX : CXT}
theorem inv_startW {N ps : List Str} {qual : Str} {scope : Scope} {f : Addr} {cd : Value} {A : Around} {outer : List Env} {s s1 : Shared} {H : Hp} {E : XK} {us : List Value} {vs : List V} {pn : List (Addr × Obj)}
    (S : FnScope N ps scope) (hpin : ∀ p ∈ pn, L2H.PinOk outer H s p) (hne : ∃ p, p ∈ pn) (e0 : Env0 P w K mg base A outer s H) (hl : vs.length = ps.length) (r : Vals vs us)
    (x : InCallC s s.heap.objs.size (bindL (envOfC qual scope s.heap.objs.size f cd).kindOf (ps.zip us) fun _ => none) (cellsFrom (s.heap.objs.size + 1) scope.names []) (bindC (envOfC qual scope s.heap.objs.size f cd).kindOf (ps.zip us) fun _ => none) s1) :
    Inv (cxW CX P w K mg base N qual scope f cd A outer s H E pn) [] (L2.start N vs) H s1 := by
  obtain ⟨p0, h0⟩ := hne
  have I := L2H.inv_startH (CX := CX) (qual := qual) (f := f) (cd := cd) (E := E) S (hpin p0 h0) e0 hl r x
  refine ⟨⟨I.ok.mod, I.ok.kind, I.ok.glob, I.ok.blt, I.ok.above, I.ok.inj, I.ok.has, I.ok.cab, I.ok.hd, I.ok.frames, I.ok.stk, I.ok.exf, I.ok.bs, I.ok.bsz, I.ok.noex, I.ok.exfs, I.ok.funs, I.ok.frf⟩, I.os, I.bare, I.base, I.loc, I.cell, I.free, I.freeC, fun p hp => ?_, I.hok, I.len⟩
  have hp : p ∈ pn := by simpa using (show p ∈ pn ++ ([] : List (Addr × Obj)) from hp)
  exact (L2H.inv_startH (CX := CX) (qual := qual) (f := f) (cd := cd) (E := E) S (hpin p hp) e0 hl r x).pin p (by show p ∈ [p] ++ ([] : List (Addr × Obj)); simp)
/-- a def's promise there, by its body -/
theorem mkHk {d : He.DefD} {N ps : List Str} {k : Nat} {sp : List (Addr × Obj) → Sp} (F : DefOk K d) (S : FnScope N ps d.scope) (len : ∀ pn vs H Q E, sp pn vs H Q E → vs.length = ps.length)
    (hbody : ∀ (cdv : Value) (A : Around) (outer : List Env) (s : Shared) (H : Hp) (vs : List V) (Q : VK) (E : XK) (pn : List (Addr × Obj)), HotP A pn → L2H.RoomH k (A.deeper (envOfC d.qual d.scope s.heap.objs.size (He.fAd K d.at_) cdv)) → sp pn vs H Q E →
      ∃ t, PSs (cxW CX0 P w K mg base N d.qual d.scope (He.fAd K d.at_) cdv A outer s H E pn).nox d.body t ∧ t { nx := fun _ H' => Q .non H', rt := Q } (L2.start N vs) H) :
    FnW P w K mg base CX0 (k + 1) (He.fAd K d.at_) (fdOf K (He.fAd K d.at_)) ps sp := by
  refine ⟨len, fun A outer s H args us vs Q E pn hr hot hpin e0 hb r hsp => ?_⟩
  have hl := len _ _ _ _ _ hsp
  have KX : K.In s.heap := e0.mod.kin.keeps fun b o e => (e0.bs b o e).1
  have lim : s.heap.NoLimit := e0.mod.nolimit.keeps fun b o e => (e0.bs b o e).1
  have hkind : ∀ y ∈ ps.zip us, d.scope.names.lookup y.1 = some .local ∨ (d.scope.names.lookup y.1 = some .cell ∧ ((cellsFrom (s.heap.objs.size + 1) d.scope.names []).lookup y.1).isSome = true) := fun ⟨n, v⟩ hy => by
    rcases S.par n (List.of_mem_zip hy).1 with q | q
    · exact .inl q
    · exact .inr ⟨q, PySem.W.cellsFrom_some _ _ _ (.inl q)⟩
  obtain ⟨oc, od, dV, kV, doc, pm, an, cdv, ct, osl, ef, lk, hcd, _, _⟩ := F.ex
  refine codeAny_call_function hr.depth (KX _ _ lk) rfl (by rw [ef]; exact S.co) (by rw [ef]; exact S.gen) (by rw [ef]) (by rw [ef]; exact PySem.W.codeRec_of KX hcd) (hb _ _ _ _ ?_)
  rw [ef]
  refine wpAny_newFunctionEnv_cells S.kind hkind fun env he s1 x => ?_
  subst he
  refine ⟨lim.keeps x.toInCall.keep, codeAny_func ?_⟩
  obtain ⟨t, ht, hq⟩ := hbody cdv A outer s H vs Q E pn hot (hr.deeper _) hsp
  obtain ⟨p0, h0, _⟩ := hot
  have I : Inv (cxW CX0 P w K mg base N d.qual d.scope (He.fAd K d.at_) cdv A outer s H E pn) [] (L2.start N vs) H s1 := inv_startW S hpin ⟨p0, h0⟩ e0 hl r x
  refine wpAny_mono (ht.nox.run [] s1 (L2.start N vs) H _ I hq) (fun fl s' hs => ?_) fun e s' hs => hs
  cases fl with
  | ret u =>
    obtain ⟨v, σ', H', J, rv, q⟩ := hs
    exact ⟨v, H', J.os, J.bare, J.base, J.hok, rv, q⟩
  | next =>
    obtain ⟨σ', H', J, q⟩ := hs
    exact ⟨V.non, H', J.os, J.bare, J.base, J.hok, rfl, q⟩
  | brk => obtain ⟨_, _, _, q⟩ := hs; exact False.elim q
  | cont => obtain ⟨_, _, _, q⟩ := hs; exact False.elim q
/-- .. where it raises, by the library's own FnH -/
theorem mkHx {d : He.DefD} {N ps : List Str} {k : Nat} {sp : Sp} (F : DefOk K d) (S : FnScope N ps d.scope) (len : ∀ vs H Q E, sp vs H Q E → vs.length = ps.length)
    (hbody : ∀ (cdv : Value) (A : Around) (outer : List Env) (s : Shared) (H : Hp) (vs : List V) (Q : VK) (E : XK) (p : Addr × Obj), L2H.Hot1 A p → L2H.RoomH k (A.deeper (envOfC d.qual d.scope s.heap.objs.size (He.fAd K d.at_) cdv)) → sp vs H Q E →
      ∃ t, PSs (L2H.cxH CX P w K mg base N d.qual d.scope (He.fAd K d.at_) cdv A outer s H E p) d.body t ∧ t { nx := fun _ H' => Q .non H', rt := Q } (L2.start N vs) H) :
    L2H.FnH P w K mg base CX (k + 1) (He.fAd K d.at_) (fdOf K (He.fAd K d.at_)) ps sp := by
  obtain ⟨oc, od, dV, kV, doc, pm, an, cdv, ct, osl, ef, lk, hcd, _, _⟩ := F.ex
  rw [ef] at lk ⊢
  exact L2H.fn_ofH lk hcd S len fun A outer s H vs Q E p hot hr hsp => hbody cdv A outer s H vs Q E p hot hr hsp
end
section
variable {X : Cx} {CX : CXT} {k : Nat} {f : Addr} {fd : FuncData} {ps : List Str} {x : Str} {q pos : Pos} {e : Expr} {es : List Expr} {t : TA} {te : TE} {E : XK}
theorem pe_callW {sp : List (Addr × Obj) → Sp} (F : FnW X.prog X.w X.K X.mg X.base CX k f fd ps sp) (hr : L2H.RoomH k X.A) (hc : HotP X.A X.pn) (hg : Gl X x) (hm : X.mg x = some (.ref f)) (hk : PySem.W.keepIn X.K (.ref f) = true) (hb : Binds X.K fd ps []) (hx : Passes CX X E)
    (ha : PA X (e :: es) t) (hdb : (x == ("__debug__" : Str)) = false := by decide) (he : starEach (e :: es) X.env = (false, eval e X.env) :: starEach es X.env := by rfl) (hpl : (backTo pos (starEach es X.env)).any (·.1) = false := by rfl) :
    PE X (.Call (.Name x q) (e :: es) [] pos) (tCall (sp X.pn) [] E t) := by
  refine ⟨fun pins s σ H Q I h => wpAny_Call_Name_kw (ld_glob I hg hm (PySem.W.callWith_K (h₀ := X.base) I.ok.mod.kin hk (thn (ha.run pos pins s σ H _ I h) fun us s1 ⟨vs, H1, I1, r, q⟩ => ⟨I1.kIn, ?_⟩) he hpl) hdb)⟩
  have q : sp X.pn (vs ++ []) H1 Q E := q
  rw [List.append_nil] at q
  show wpAny _ _ (call (.ref f) us) _ _ _
  have hl : us.length = ps.length := by rw [← r.length]; exact F.len _ _ _ _ _ q
  have b := hb s1 us I1.kIn (by rw [List.append_nil]; exact hl)
  rw [List.append_nil] at b
  refine wpAny_call (codeAny_mono (F.run X.A X.stack s1 H1 ⟨us, []⟩ us vs Q E X.pn hr hc (fun p hp => ?_) I1.env0 b r q) fun r s' hq => ?_)
  · have P1 := I1.pin p (List.mem_append_left _ hp)
    exact ⟨P1.1, P1.2.1, fun hm => (List.mem_cons.mp (I1.stkSub p.1 hm)).elim P1.2.2.1 P1.2.2.2.1, P1.2.2.2.2⟩
  cases r with
  | error e => exact hx pins σ H1 s1 e s' I1 hq
  | ok fl =>
    cases fl with
    | ret u => exact I1.after hq
    | next => exact False.elim hq
    | brk => exact False.elim hq
    | cont => exact False.elim hq
/-- e.f, e the handled exception -/
def tXfW (pn : List (Addr × Obj)) (C : Addr) (f : Str) (te : TE) : TE := fun σ H Q => te σ H fun x H1 => ∃ (a : Addr) (oe : Obj) (dd : Addr) (fs : List (Str × V)) (v : V), x = .ref a ∧ (a, oe) ∈ pn ∧ oe.cls = .ref C ∧ oe.dict = some dd ∧ (∃ vs, oe.data = .fields vs) ∧ H1 dd = some (.xd fs) ∧ fs.lookup f = some v ∧ Q v H1
theorem pe_xfW {C : Addr} {n : Str} (T : XfC X.K C) (hno : PySem.W.findIn X.K (.ref C) n = some none) (he : PE X e te) (hb : attributeBase e n X.env (eval e X.env) = eval e X.env := by rfl) : PE X (.Attribute e n pos) (tXfW X.pn C n te) := by
  refine ⟨fun pins s σ H Q I h => attr_of hb (thn (he.run pins s σ H _ I h) fun u s1 ⟨x, H1, I1, rx, a, oe, dd, fs, v, ex, hm, ec, ed, ⟨vs, hd⟩, ea, l, q⟩ => ?_)⟩
  subst ex
  obtain rfl : u = Value.ref a := rx
  obtain ⟨ha, _⟩ := I1.pin (a, oe) (List.mem_append_left _ hm)
  have hx : ObjOk X.prog X.w H1 s1.heap dd (.xd fs) := I1.hok dd _ ea
  obtain ⟨mA, hns, hr⟩ := hx
  obtain ⟨od, ho, hl⟩ := lookIn_ns hns
  obtain ⟨u, hu, ru⟩ := RelO.some_of (v := v) (o := mA n) (by rw [← l]; exact hr n)
  have J : PySem.W.InstAt s1.heap a oe C (some od) := ⟨ha, ec, by unfold PySem.W.notCls; rw [hd] <;> rfl, by rw [ed]; exact ho⟩
  exact HandSPX.exc_get I1.kIn J T.ga T.gg T.exC (PySem.W.findObj_own T.hdC hno rfl (by rw [hl, hu])) (handed_of ru) ⟨v, H1, I1.tok _, ru, q⟩
/-- Refused(..) there -/
theorem pmk_refH {cx : CXT} {C fI : Addr} {sp : Sp} {p : Pos} (T : RefC X.K C) (iC : PySem.W.findIn X.K (.ref C) "__init__" = some (some (.ref fI))) (tI : PySem.W.typeIn X.K (.ref fI) = some (.type "function"))
    (G : L2H.FnH X.prog X.w X.K X.mg X.base cx k fI fd ps sp) (hr : L2H.RoomH (k + 1) X.A) (hc : L2H.HotC X) (hb : Binds X.K fd ps []) (hx : Passes cx X (fun _ _ _ => False)) (hg : Gl X x) (hm : X.mg x = some (.ref C)) (ha : PA X (e :: es) t)
    (hdb : (x == ("__debug__" : Str)) = false := by decide) (he : starEach (e :: es) X.env = (false, eval e X.env) :: starEach es X.env := by rfl) (hpl : (backTo pos (starEach es X.env)).any (·.1) = false := by rfl) :
    L2N.PMk X (.Call (.Name x p) (e :: es) [] pos) (tMkR C sp [] t) := by
  intro pins s σ H Q I h
  obtain ⟨nm, q, N, bs, sn, sub, ab, col, dd, k0, k1, k2, k3, k5, hC⟩ := T.cls
  obtain ⟨pn, hot, hpn⟩ := hc
  refine wpAny_Call_Name_kw (ld_glob I hg hm (PySem.W.callWith_K (h₀ := X.base) I.ok.mod.kin T.kC (thn (ha.run pos pins s σ H _ I h) fun us s1 ⟨vs, H1, I1, r1, hz, q1⟩ => ⟨I1.kIn, ?_⟩) he hpl) hdb)
  show wpAny _ _ (call (.ref C) us) _ _ _
  obtain ⟨hp, g, dr, tk, os⟩ := s1
  have up := Nat.le_succ hp.objs.size
  have hn : H1 (hp.objs.size + 1) = none := I1.hok.fresh up
  have hq := q1 _ hn
  rw [List.append_nil] at hq
  have kk : ∀ b o, hp.get? b = some o → ((hp.push (PySem.W.kdv_tup us)).push (PySem.HandSPX.excO C hp.objs.size)).get? b = some o := fun b o z => Heap.get?_push_of_some _ (Heap.get?_push_of_some _ z)
  have at2 : ((hp.push (PySem.W.kdv_tup us)).push (PySem.HandSPX.excO C hp.objs.size)).get? (hp.objs.size + 1) = some (PySem.HandSPX.excO C hp.objs.size) := by heap_get
  have I2 : Inv X pins σ (upd H1 (hp.objs.size + 1) (exo (hp.objs.size + 1) C none)) ⟨(hp.push (PySem.W.kdv_tup us)).push (PySem.HandSPX.excO C hp.objs.size), g, dr, tk, os⟩ := I1.laid (t' := tk) kk up (exo_ok at2)
  have r2 : Vals (V.ref (hp.objs.size + 1) :: vs) (Value.ref (hp.objs.size + 1) :: us) := .cons rfl r1
  have hl : (Value.ref (hp.objs.size + 1) :: us ++ []).length = ps.length := by rw [List.append_nil]; exact r2.length.symm.trans (G.len _ _ _ _ hq)
  have hus : us.length ≤ sizeLine := by rw [← Paired.length r1, sizeLine_eq]; omega
  have b2 := hb _ (Value.ref (hp.objs.size + 1) :: us) I2.kIn hl
  rw [List.append_nil] at b2
  have P1 := I2.pin pn (List.mem_append_left _ hpn)
  have go := G.run _ X.stack _ _ ⟨Value.ref (hp.objs.size + 1) :: us, []⟩ (Value.ref (hp.objs.size + 1) :: us) _ _ (fun _ _ _ => False) pn (hr.make C us []) ⟨hot.1, hot.2⟩ ⟨P1.1, P1.2.1, fun hmm => (List.mem_cons.mp (I2.stkSub pn.1 hmm)).elim P1.2.2.1 P1.2.2.2.1, P1.2.2.2.2⟩ (I2.env0.make C us []) b2 r2 hq
  refine wpAny_call (PySem.HandSPX.call_own F.excBase_Exception (fun _ => rfl) (I1.kIn _ _ hC) (PySem.W.looks_findIn I1.kIn iC) (fun self => PySem.W.bind_fn I1.kIn self tI) hus (codeAny_mono go fun r s' z => ?_))
  cases r with
  | error er => exact hx pins σ _ _ er s' I2 z
  | ok fl =>
    cases fl with
    | ret w =>
      obtain ⟨v, H2, os2, bare2, un2, hok2, rv, ev, d, fs, ea, ed, hd1, q2⟩ := z
      subst ev
      obtain ⟨h2, g2, d2, t2, os3⟩ := s'
      obtain ⟨t0, G2, J, kG, ge, hoe, na⟩ := L2.mk_end0 (d2 := d2) (t2 := t2) I1 up kk un2 hok2 os2 bare2 ea ed hd1
      exact ⟨rv, hp.objs.size + 1, _, _, ⟨G2, g2, d2, t2, os3⟩, _, .ref C, some d, rfl, J, kG, ge, hoe, ⟨rfl, rfl, fun vs z => by cases z; rfl⟩, rfl, rfl, na, rfl, bare2, raises_own T.exC T.tyC, q2⟩
    | next => exact False.elim z
    | brk => exact False.elim z
    | cont => exact False.elim z
end
end Sl
/-! ## SlVal -/
namespace Sl
open PySem PySem.Spec PyProof.Rows L2 Evl
/-! ### texts of octets as texts of plain letters -/
/-- the letter of an octet, the mark (96) for one that is not plain -/
def letr (o : Nat) : Nat := if o = 10 then 10 else if 32 ≤ o ∧ o ≤ 126 ∧ o ≠ 96 ∧ o ≠ 124 then (if o = 37 then 124 else o) else 96
def hexd (d : Nat) : Nat := if d < 10 then 48 + d else 87 + d
def isPlain (u : List UInt8) : Bool := u.all fun o => letr o.toNat != 96
def codesOf (u : List UInt8) : List Nat := if isPlain u then u.map fun o => letr o.toNat else 96 :: u.flatMap fun o => [hexd (o.toNat / 16), hexd (o.toNat % 16)]
def enc (u : List UInt8) : Str := ⟨(codesOf u).toArray⟩
theorem letr_cases (x : Nat) : letr x = 96 ∨ (x = 10 ∧ letr x = 10) ∨ (32 ≤ x ∧ x ≤ 126 ∧ x ≠ 96 ∧ x ≠ 124 ∧ ((x = 37 ∧ letr x = 124) ∨ (x ≠ 37 ∧ letr x = x))) := by
  unfold letr
  by_cases h1 : x = 10
  · rw [if_pos h1]; exact .inr (.inl ⟨h1, rfl⟩)
  · rw [if_neg h1]
    by_cases h2 : 32 ≤ x ∧ x ≤ 126 ∧ x ≠ 96 ∧ x ≠ 124
    · rw [if_pos h2]
      by_cases h3 : x = 37
      · rw [if_pos h3]; exact .inr (.inr ⟨h2.1, h2.2.1, h2.2.2.1, h2.2.2.2, .inl ⟨h3, rfl⟩⟩)
      · rw [if_neg h3]; exact .inr (.inr ⟨h2.1, h2.2.1, h2.2.2.1, h2.2.2.2, .inr ⟨h3, rfl⟩⟩)
    · rw [if_neg h2]; exact .inl rfl
theorem letr_inj (a b : UInt8) (h : letr a.toNat = letr b.toNat) (n : letr a.toNat ≠ 96) : a = b := by
  have e : a.toNat = b.toNat := by
    have h1 := letr_cases a.toNat
    have h2 := letr_cases b.toNat
    omega
  exact UInt8.toNat_inj.mp e
theorem hex_inj (a b : UInt8) (h : hexd (a.toNat / 16) = hexd (b.toNat / 16)) (h2 : hexd (a.toNat % 16) = hexd (b.toNat % 16)) : a = b := by
  have key : ∀ x y : Nat, hexd x = hexd y → x = y := fun x y e => by
    unfold hexd at e
    split at e <;> split at e <;> omega
  have e1 := key _ _ h
  have e2 := key _ _ h2
  exact UInt8.toNat_inj.mp (by omega)
theorem plain_inj : ∀ {u v : List UInt8}, isPlain u = true → u.map (fun o => letr o.toNat) = v.map (fun o => letr o.toNat) → u = v
  | [], [], _, _ => rfl
  | [], _ :: _, _, h => by cases h
  | _ :: _, [], _, h => by cases h
  | a :: u, b :: v, p, h => by
    have p2 : (letr a.toNat != 96 && isPlain u) = true := p
    obtain ⟨p3, p4⟩ := Bool.and_eq_true_iff.mp p2
    obtain ⟨h1, h2⟩ := List.cons.inj (show letr a.toNat :: u.map (fun o => letr o.toNat) = letr b.toNat :: v.map (fun o => letr o.toNat) from h)
    rw [letr_inj a b h1 (by simpa using p3), plain_inj p4 h2]
theorem hexs_inj : ∀ {u v : List UInt8}, (u.flatMap fun o => [hexd (o.toNat / 16), hexd (o.toNat % 16)]) = (v.flatMap fun o => [hexd (o.toNat / 16), hexd (o.toNat % 16)]) → u = v
  | [], [], _ => rfl
  | [], b :: v, h => by
    rw [List.flatMap_cons] at h
    cases h
  | a :: u, [], h => by
    rw [List.flatMap_cons] at h
    cases h
  | a :: u, b :: v, h => by
    rw [List.flatMap_cons, List.flatMap_cons] at h
    obtain ⟨h1, h2⟩ := List.cons.inj h
    obtain ⟨h3, h4⟩ := List.cons.inj h2
    rw [hex_inj a b h1 h3, hexs_inj h4]
theorem plain_no96 {u : List UInt8} (p : isPlain u = true) : 96 ∉ u.map fun o => letr o.toNat := fun h => by
  obtain ⟨o, ho, e⟩ := List.mem_map.mp h
  have q := List.all_eq_true.mp p o ho
  rw [e] at q
  exact absurd q (by decide)
theorem codes_inj {u v : List UInt8} (h : codesOf u = codesOf v) : u = v := by
  unfold codesOf at h
  cases pu : isPlain u with
  | true =>
    cases pv : isPlain v with
    | true =>
      rw [pu, pv, if_pos rfl, if_pos rfl] at h
      exact plain_inj pu h
    | false =>
      rw [pu, pv, if_pos rfl, if_neg (by decide)] at h
      exact absurd (h ▸ List.mem_cons_self ..) (plain_no96 pu)
  | false =>
    cases pv : isPlain v with
    | true =>
      rw [pu, pv, if_neg (by decide), if_pos rfl] at h
      exact absurd (h ▸ List.mem_cons_self ..) (plain_no96 pv)
    | false =>
      rw [pu, pv, if_neg (by decide), if_neg (by decide)] at h
      exact hexs_inj (List.cons.inj h).2
theorem enc_inj {u v : List UInt8} (h : enc u = enc v) : u = v := by
  have h1 : (codesOf u).toArray = (codesOf v).toArray := congrArg Str.cps h
  have h2 : (codesOf u).toArray.toList = (codesOf v).toArray.toList := by rw [h1]
  exact codes_inj (by simpa using h2)
theorem enc_len (u : List UInt8) : (enc u).length ≤ 2 * u.length + 1 := by
  have fl : ∀ l : List UInt8, (l.flatMap fun o => [hexd (o.toNat / 16), hexd (o.toNat % 16)]).length = 2 * l.length := fun l => by
    induction l with
    | nil => rfl
    | cons a r ih => rw [List.flatMap_cons, List.length_append, ih, List.length_cons (a := a)]; show 2 + _ = _; omega
  have h : (codesOf u).length ≤ 2 * u.length + 1 := by
    unfold codesOf
    split
    · rw [List.length_map]; omega
    · rw [List.length_cons, fl]; omega
  have h2 : (enc u).length = (codesOf u).length := by
    show (codesOf u).toArray.size = _
    simp
  omega
/-! ### the document's values in the heap -/
abbrev Val := RWire.Value
mutual
def ValAt (K : PySem.W.Frag) (H : Hp) : V → Val → Prop
  | v, .nothing => ∃ a dx, v = .ref a ∧ H a = some (.ins (He.ga K "Nothing") dx [])
  | v, .null => v = .non
  | v, .bool b => v = .bl b
  | v, .int i => v = .int i
  | v, .text u => v = .str (enc u)
  | v, .list l => ∃ a vs, v = .ref a ∧ H a = some (.lst vs) ∧ ValsAt K H vs l
  | v, .record l => ∃ a dx m ts, v = .ref a ∧ H a = some (.ins (He.ga K "Record") dx [("members", .ref m)]) ∧ H m = some (.lst ts) ∧ EntsAt K H ts l
  | _, .big _ => False
  | _, .octets _ => False
  | _, .wide _ => False
def ValsAt (K : PySem.W.Frag) (H : Hp) : List V → List Val → Prop
  | vs, [] => vs = []
  | vs, x :: r => ∃ v us, vs = v :: us ∧ ValAt K H v x ∧ ValsAt K H us r
def EntsAt (K : PySem.W.Frag) (H : Hp) : List V → List (RWire.Text × Val) → Prop
  | ts, [] => ts = []
  | ts, e :: r => ∃ t us p v, ts = t :: us ∧ t = .ref p ∧ H p = some (.tup [.str (enc e.1), v]) ∧ ValAt K H v e.2 ∧ EntsAt K H us r
end
section
variable {K : PySem.W.Frag} {H H' : Hp}
mutual
theorem ValAt.mono (e : Ex H H') : ∀ {v : V} {x : Val}, ValAt K H v x → ValAt K H' v x
  | v, .nothing, h => by
    obtain ⟨a, dx, rfl, h⟩ := h
    exact ⟨a, dx, rfl, e _ _ h⟩
  | v, .null, h => h
  | v, .bool b, h => h
  | v, .int i, h => h
  | v, .text u, h => h
  | v, .list l, h => by
    obtain ⟨a, vs, rfl, h1, h2⟩ := h
    exact ⟨a, vs, rfl, e _ _ h1, ValsAt.mono e h2⟩
  | v, .record l, h => by
    obtain ⟨a, dx, m, ts, rfl, h1, h2, h3⟩ := h
    exact ⟨a, dx, m, ts, rfl, e _ _ h1, e _ _ h2, EntsAt.mono e h3⟩
  | v, .big _, h => h.elim
  | v, .octets _, h => h.elim
  | v, .wide _, h => h.elim
theorem ValsAt.mono (e : Ex H H') : ∀ {vs : List V} {l : List Val}, ValsAt K H vs l → ValsAt K H' vs l
  | vs, [], h => h
  | vs, x :: r, h => by
    obtain ⟨v, us, rfl, h1, h2⟩ := h
    exact ⟨v, us, rfl, ValAt.mono e h1, ValsAt.mono e h2⟩
theorem EntsAt.mono (e : Ex H H') : ∀ {ts : List V} {l : List (RWire.Text × Val)}, EntsAt K H ts l → EntsAt K H' ts l
  | ts, [], h => h
  | ts, x :: r, h => by
    obtain ⟨t, us, p, v, rfl, ht, h1, h2, h3⟩ := h
    exact ⟨t, us, p, v, rfl, ht, e _ _ h1, ValAt.mono e h2, EntsAt.mono e h3⟩
end
theorem ValsAt.append : ∀ {vs us : List V} {l m : List Val}, ValsAt K H vs l → ValsAt K H us m → ValsAt K H (vs ++ us) (l ++ m)
  | vs, us, [], m, h, h2 => by
    obtain rfl : vs = [] := h
    exact h2
  | vs, us, x :: r, m, h, h2 => by
    obtain ⟨v, ws, rfl, h1, h3⟩ := h
    exact ⟨v, ws ++ us, rfl, h1, ValsAt.append h3 h2⟩
theorem EntsAt.append : ∀ {vs us : List V} {l m : List (RWire.Text × Val)}, EntsAt K H vs l → EntsAt K H us m → EntsAt K H (vs ++ us) (l ++ m)
  | vs, us, [], m, h, h2 => by
    obtain rfl : vs = [] := h
    exact h2
  | vs, us, x :: r, m, h, h2 => by
    obtain ⟨t, ws, p, v, rfl, ht, h1, h3, h4⟩ := h
    exact ⟨t, ws ++ us, p, v, rfl, ht, h1, h3, EntsAt.append h4 h2⟩
theorem ValsAt.len : ∀ {vs : List V} {l : List Val}, ValsAt K H vs l → vs.length = l.length
  | vs, [], h => by
    obtain rfl : vs = [] := h
    rfl
  | vs, x :: r, h => by
    obtain ⟨v, us, rfl, _, h2⟩ := h
    rw [List.length_cons, List.length_cons, h2.len]
theorem EntsAt.len : ∀ {vs : List V} {l : List (RWire.Text × Val)}, EntsAt K H vs l → vs.length = l.length
  | vs, [], h => by
    obtain rfl : vs = [] := h
    rfl
  | vs, x :: r, h => by
    obtain ⟨t, ws, p, v, rfl, ht, h1, h3, h4⟩ := h
    rw [List.length_cons, List.length_cons, h4.len]
theorem moVal (x : Val) : Mo fun v H => ValAt K H v x := fun _ _ _ e h => h.mono e
end
/-! ### lists, records as they are made -/
section
variable {K : PySem.W.Frag} {σ : L2.St} {F H : Hp} {ta tb te to : TE} {tr : TA} {x y : Val} {l m : List Val}
abbrev EgV (K : PySem.W.Frag) (te : TE) (σ : L2.St) (F : Hp) (x : Val) : Prop := Eg te σ F fun v H => ValAt K H v x
abbrev EgVs (K : PySem.W.Frag) (t : TA) (σ : L2.St) (F : Hp) (l : List Val) : Prop := EgA t σ F fun vs H => ValsAt K H vs l
theorem gv_int {i : Int} (h : Ev te σ F (.int i)) : EgV K te σ F (.int i) := eg_ev h fun _ _ => by unfold ValAt; rfl
theorem gv_bl {b : Bool} (h : Ev te σ F (.bl b)) : EgV K te σ F (.bool b) := eg_ev h fun _ _ => by unfold ValAt; rfl
theorem gv_non (h : Ev te σ F .non) : EgV K te σ F .null := eg_ev h fun _ _ => by unfold ValAt; rfl
theorem gv_str {u : List UInt8} {s : Str} (h : Ev te σ F (.str s)) (e : s = enc u) : EgV K te σ F (.text u) := eg_ev h fun _ _ => by unfold ValAt; rw [e]
theorem gvs_nil : EgVs K tNil σ F [] := fun H1 _ Q q => q [] H1 (Ex.refl H1) (by unfold ValsAt; rfl)
theorem gvs_cons (h : EgV K te σ F x) (hr : EgVs K tr σ F l) : EgVs K (tCons te tr) σ F (x :: l) := fun H1 e Q q =>
  h H1 e _ fun v H2 e2 p => hr H2 (e.trans e2) _ fun us H3 e3 p3 => q (v :: us) H3 (e2.trans e3) (by unfold ValsAt; exact ⟨v, us, rfl, p.mono e3, p3⟩)
theorem gv_lst (h : EgVs K tr σ F l) (hl : Nat.ble l.length 100000 = true) : EgV K (tLst tr) σ F (.list l) := fun H1 e Q q =>
  h H1 e _ fun vs H2 e2 p => ⟨sz_of (by rw [p.len]; exact Nat.le_of_ble_eq_true hl), fun a ha => q (.ref a) _ (e2.trans (Ex.new ha)) (by unfold ValAt; exact ⟨a, vs, rfl, upd_same, p.mono (Ex.new ha)⟩)⟩
theorem gv_cat (h1 : EgV K ta σ F (.list l)) (h2 : EgV K tb σ F (.list m)) (hl : l.length + m.length ≤ 100000) : EgV K (tOp rCat ta tb) σ F (.list (l ++ m)) := fun H1 e Q q =>
  h1 H1 e _ fun v H2 e2 p2 => h2 H2 (e.trans e2) _ fun w H3 e3 p3 => by
    unfold ValAt at p2 p3
    obtain ⟨a, vs, rfl, ha, pa⟩ := p2
    obtain ⟨b, us, rfl, hb, pb⟩ := p3
    refine ⟨a, b, vs, us, rfl, rfl, e3 _ _ ha, hb, sz_of (by rw [pa.len, pb.len]; exact hl), fun p hp => q (.ref p) _ ((e2.trans e3).trans (Ex.new hp)) ?_⟩
    unfold ValAt
    exact ⟨p, _, rfl, upd_same, (pa.mono (e3.trans (Ex.new hp))).append (pb.mono (Ex.new hp))⟩
theorem gv_if {t : TT} {b : Bool} (ht : EvT t σ F b) (h1 : b = true → EgV K ta σ F x) (h2 : b = false → EgV K tb σ F x) : EgV K (tIf t ta tb) σ F x := eg_if ht h1 h2
/-- a list of pairs -/
abbrev EgEs (K : PySem.W.Frag) (t : TA) (σ : L2.St) (F : Hp) (l : List (RWire.Text × Val)) : Prop := EgA t σ F fun vs H => EntsAt K H vs l
abbrev EgE (K : PySem.W.Frag) (te : TE) (σ : L2.St) (F : Hp) (l : List (RWire.Text × Val)) : Prop := Eg te σ F fun v H => ∃ m ts, v = .ref m ∧ H m = some (.lst ts) ∧ EntsAt K H ts l
theorem ges_nil : EgEs K tNil σ F [] := fun H1 _ Q q => q [] H1 (Ex.refl H1) (by unfold EntsAt; rfl)
theorem ges_cons {es : List (RWire.Text × Val)} {u : List UInt8} {s : Str} (hs : s = enc u) (h : EgV K te σ F x) (hr : EgEs K tr σ F es) : EgEs K (tCons (tTup (tCons (tC (.str s)) (tCons te tNil))) tr) σ F ((u, x) :: es) := fun H1 e Q q =>
  h H1 e _ fun v H2 e2 p => ⟨by show 2 ≤ sizeLine; decide, fun a ha => hr _ ((e.trans e2).trans (Ex.new ha)) _ fun us H3 e3 p3 => q (.ref a :: us) H3 ((e2.trans (Ex.new ha)).trans e3) (by
    unfold EntsAt
    exact ⟨.ref a, us, a, v, rfl, rfl, by rw [← hs]; exact e3 _ _ upd_same, (p.mono (Ex.new ha)).mono e3, p3⟩)⟩
theorem ge_lst {es : List (RWire.Text × Val)} (h : EgEs K tr σ F es) (hl : Nat.ble es.length 100000 = true) : EgE K (tLst tr) σ F es := fun H1 e Q q =>
  h H1 e _ fun vs H2 e2 p => ⟨sz_of (by rw [p.len]; exact Nat.le_of_ble_eq_true hl), fun a ha => q (.ref a) _ (e2.trans (Ex.new ha)) ⟨a, vs, rfl, upd_same, p.mono (Ex.new ha)⟩⟩
theorem ge_cat {l m : List (RWire.Text × Val)} (h1 : EgE K ta σ F l) (h2 : EgE K tb σ F m) (hl : l.length + m.length ≤ 100000) : EgE K (tOp rCat ta tb) σ F (l ++ m) := fun H1 e Q q =>
  h1 H1 e _ fun v H2 e2 p2 => h2 H2 (e.trans e2) _ fun w H3 e3 p3 => by
    obtain ⟨a, vs, rfl, ha, pa⟩ := p2
    obtain ⟨b, us, rfl, hb, pb⟩ := p3
    refine ⟨a, b, vs, us, rfl, rfl, e3 _ _ ha, hb, sz_of (by rw [pa.len, pb.len]; exact hl), fun p hp => q (.ref p) _ ((e2.trans e3).trans (Ex.new hp)) ?_⟩
    exact ⟨p, _, rfl, upd_same, (pa.mono (e3.trans (Ex.new hp))).append (pb.mono (Ex.new hp))⟩
theorem EgE.of_var {i : Nat} {m : Addr} {ts : List V} {l : List (RWire.Text × Val)} (h : σ[i]? = some (some (.ref m))) (hm : F m = some (.lst ts)) (he : EntsAt K F ts l) : EgE K (tVar i) σ F l :=
  eg_ev (ev_var h) fun H1 e => ⟨m, ts, rfl, e _ _ hm, he.mono e⟩
end
/-! ### Record -/
def recF (vs : List V) : List (Str × V) := match vs with
  | [m] => [("members", m)]
  | _ => []
section
variable {P : Program} {w : World} {K : PySem.W.Frag} {mg : Str → Option Value} {base : Heap}
theorem sc_Record_init : FnScope ["self", "members"] ["self", "members"] d_Record_init.scope := ⟨rfl, rfl, rfl, by decide +kernel, rfl, by decide +kernel, by decide +kernel⟩
theorem ok_Record_init (T : Tx w K mg) : FnOk P w K mg base CX0 1 (He.ma K (He.ga K "Record") "__init__") (fdOf K (He.ma K (He.ga K "Record") "__init__")) ["self", "members"] (spFields (He.ga K "Record") 1 recF) := by
  refine mkOk T.F_Record_init ⟨rfl, rfl⟩ sc_Record_init (fun vs H Q E h => ?_) (fun cdv A outer s H vs Q E hr h => ⟨_, (pss_one (ps_fld (pv 0) (pv 1) rfl)), ?_⟩)
  · exact spFields_len h
  · obtain ⟨p, dx, us, rfl, hl, hp, k⟩ := h
    match us, hl with
    | [m], _ => exact ⟨_, rfl, _, rfl, p, _, dx, [], rfl, hp, T.c_Record, T.n_Record_members, (by show 0 < 1000; decide), k _ upd_same fun b o e hb => by rw [upd_ne hb]; exact e⟩
end
end Sl
/-! ## SlRules -/
namespace Sl
open PySem PySem.Spec PyProof.Rows L2 Evl
open R7239g.Spec (typeMost lateMost longerThan passes viaPage viaCode theftPossible foistPossible)
/-! ### what follows from rules -/
/-- a method of rules that tells a value -/
def spR (K : PySem.W.Frag) (f : SR → V) : Sp := fun vs H Q _ => ∃ (a : Addr) (r : SR), vs = [.ref a] ∧ RulesAt K H a r ∧ ∀ H', Ex H H' → Q (f r) H'
theorem spR_go {K : PySem.W.Frag} {F : Hp} {a : Addr} {r : SR} {f : SR → V} (h : RulesAt K F a r) : SpG (spR K f) [.ref a] F fun x _ => x = f r := fun H1 e Q E q => ⟨a, r, rfl, h.mono e, fun H' e' => q _ H' e' rfl⟩
def spExc (K : PySem.W.Frag) : Sp := fun vs H Q _ => ∃ (a : Addr) (r : SR) (o : Option Nat), vs = [.ref a, optV o] ∧ RulesAt K H a r ∧ ∀ H', Ex H H' → Q (.bl (longerThan r.delay o)) H'
theorem spExc_go {K : PySem.W.Frag} {F : Hp} {a : Addr} {r : SR} {o : Option Nat} (h : RulesAt K F a r) : SpG (spExc K) [.ref a, optV o] F fun x _ => x = .bl (longerThan r.delay o) := fun H1 e Q E q => ⟨a, r, o, rfl, h.mono e, fun H' e' => q _ H' e' rfl⟩
theorem at_ins {K : PySem.W.Frag} {F : Hp} {a : Addr} {r : SR} (h : RulesAt K F a r) : ∃ dx, F a = some (.ins (He.ga K "Rules") dx (rF r)) := h.2
local macro_rules
  | `(tactic| walk_at "ev") => `(tactic| first
    | exact ev_c
    | exact ev_var rfl
    | (refine' ev_fld ?k1 ?k2 ?k3 ?k4 ?k5; (case k1 => walk_at "ev"); (case k2 => assumption); (case k3 => exact Tx.cl (by assumption) rfl); (case k4 => exact Tx.na (by assumption) rfl); (case k5 => rfl))
    | (refine' ev_meth ?k1 ?k2 ?k3 ?k4 ?k5; (case k1 => walk_at "ev"); (case k2 => assumption); (case k3 => rfl); (case k4 => walk_at "ev"); (case k5 => walk_at "sp"))
    | (refine' ev_callG ?k1 ?k2; (case k1 => walk_at "ev"); (case k2 => walk_at "sp"))
    | (refine' ev_isN ?k1; (case k1 => walk_at "ev"))
    | (refine' ev_notN ?k1; (case k1 => walk_at "ev"))
    | (refine' ev_int ?k1 ?k2; (case k1 => walk_at "ev"); (case k2 => walk_at "ev"))
    | (refine' ev_sc ?k1 ?k2 ?k3; (case k1 => walk_at "ev"); (case k2 => walk_at "ev"); (case k3 => rfl))
    | (refine' ev_scn ?k1 ?k2 ?k3; (case k1 => walk_at "ev"); (case k2 => walk_at "ev"); (case k3 => rfl))
    | (refine' ev_notV ?k1; (case k1 => walk_at "ev"))
    | (refine' ev_andV ?k1 ?k2; (case k1 => walk_at "ev"); (case k2 => intro _; walk_at "ev"))
    | (refine' ev_orV ?k1 ?k2; (case k1 => walk_at "ev"); (case k2 => intro _; walk_at "ev"))
    | (refine' et_test ?k1; (case k1 => walk_at "ev"))
    | (refine' et_B ?k1; (case k1 => walk_at "ev"))
    | (refine' et_and ?k1 ?k2; (case k1 => walk_at "ev"); (case k2 => intro _; walk_at "ev"))
    | (refine' et_or ?k1 ?k2; (case k1 => walk_at "ev"); (case k2 => intro _; walk_at "ev"))
    | (refine' et_not ?k1; (case k1 => walk_at "ev"))
    | exact ea_nil
    | (refine' ea_cons ?k1 ?k2; (case k1 => walk_at "ev"); (case k2 => walk_at "ev")))
local macro_rules
  | `(tactic| walk_at "sp") => `(tactic| first | exact spR_go (by assumption) | exact spExc_go (by assumption))
section
variable {P : Program} {w : World} {K : PySem.W.Frag} {mg : Str → Option Value} {base : Heap}
theorem sc_Rules_keying : FnScope ["self"] ["self"] d_Rules_keying.scope := ⟨rfl, rfl, rfl, by decide +kernel, rfl, by decide +kernel, by decide +kernel⟩
theorem ok_Rules_keying (T : Tx w K mg) : FnOk P w K mg base CX0 1 (He.ma K (He.ga K "Rules") "keying") (fdOf K (He.ma K (He.ga K "Rules") "keying")) ["self"] (spR K fun r => .int (typeMost r : Int)) := by
  refine mkOk T.F_Rules_keying ⟨rfl, rfl⟩ sc_Rules_keying (fun vs H Q E h => ?_) (fun cdv A outer s H vs Q E hr h => ⟨_, (pss_one (ps_ret (pe_ifExp (pt_cmpR op_isN (pe_fld (pv 0) rfl) pe_non (nomark _)) pe_int (pe_op op_sub (pe_fld (pv 0) rfl) pe_int)))), ?_⟩)
  · (repeat (first | exact congrArg List.length h.1 | obtain ⟨_, h⟩ := h))
  · obtain ⟨a, ⟨o, dl, lf, nm, g, se, b, ne, he, on⟩, rfl, ⟨rk, dx, ha⟩, q⟩ := h
    refine pr_ret (F := H) (v := .int (typeMost _ : Int)) ?_ q H (Ex.refl H)
    cases nm with
    | none => exact ev_iteT (et_is (by walk_at "ev") (by rfl)) ev_c
    | some n =>
      refine ev_is (ev_iteF (et_is (by walk_at "ev") (by rfl)) (by walk_at "ev")) ?_
      have := (rk.n1 n rfl).1
      show V.int _ = V.int ((n - 1 : Nat) : Int)
      congr 1; omega
theorem sc_Rules_granting : FnScope ["self"] ["self"] d_Rules_granting.scope := ⟨rfl, rfl, rfl, by decide +kernel, rfl, by decide +kernel, by decide +kernel⟩
theorem ok_Rules_granting (T : Tx w K mg) : FnOk P w K mg base CX0 1 (He.ma K (He.ga K "Rules") "granting") (fdOf K (He.ma K (He.ga K "Rules") "granting")) ["self"] (spR K fun r => .int ((r.grant - 1 : Nat) : Int)) := by
  refine mkOk T.F_Rules_granting ⟨rfl, rfl⟩ sc_Rules_granting (fun vs H Q E h => ?_) (fun cdv A outer s H vs Q E hr h => ⟨_, (pss_one (ps_ret (pe_op op_sub (pe_fld (pv 0) rfl) pe_int))), ?_⟩)
  · (repeat (first | exact congrArg List.length h.1 | obtain ⟨_, h⟩ := h))
  · obtain ⟨a, ⟨o, dl, lf, nm, g, se, b, ne, he, on⟩, rfl, ⟨rk, dx, ha⟩, q⟩ := h
    refine pr_ret (F := H) (v := .int ((g - 1 : Nat) : Int)) (ev_is (by walk_at "ev") ?_) q H (Ex.refl H)
    have h1 : 1 ≤ g := rk.g1
    show V.int ((g : Int) - 1) = V.int ((g - 1 : Nat) : Int)
    congr 1; omega
theorem sc_Rules_exceeds : FnScope ["self", "value"] ["self", "value"] d_Rules_exceeds.scope := ⟨rfl, rfl, rfl, by decide +kernel, rfl, by decide +kernel, by decide +kernel⟩
theorem ok_Rules_exceeds (T : Tx w K mg) : FnOk P w K mg base CX0 1 (He.ma K (He.ga K "Rules") "exceeds") (fdOf K (He.ma K (He.ga K "Rules") "exceeds")) ["self", "value"] (spExc K) := by
  refine mkOk T.F_Rules_exceeds ⟨rfl, rfl⟩ sc_Rules_exceeds (fun vs H Q E h => ?_) (fun cdv A outer s H vs Q E hr h => ⟨_, (pss_one (ps_ret (pe_or (pe_cmpR op_isN (pv 1) pe_non (nomark _)) (pe_one (pe_cmpR op_gt (pv 1) (pe_fld (pv 0) rfl) (nomark _)))))), ?_⟩)
  · (repeat (first | exact congrArg List.length h.1 | obtain ⟨_, h⟩ := h))
  · obtain ⟨a, ⟨o, dl, lf, nm, g, se, b, ne, he, on⟩, x, rfl, ⟨rk, dx, ha⟩, q⟩ := h
    refine pr_ret (F := H) ?_ q H (Ex.refl H)
    cases x with
    | none => exact ev_orV (a := true) (b := true) (ev_is (by walk_at "ev") (by rfl)) fun h => Bool.noConfusion h
    | some n =>
      refine ev_is (ev_orV (a := false) (ev_is (by walk_at "ev") (by rfl)) fun _ => by walk_at "ev") ?_
      show V.bl (false || decide ((dl : Int) < (n : Int))) = V.bl (decide (dl < n))
      rw [Bool.false_or]; congr 1; exact decide_eq_decide.mpr (by omega)
theorem sc_Rules_do_pass : FnScope ["self"] ["self"] d_Rules_do_pass.scope := ⟨rfl, rfl, rfl, by decide +kernel, rfl, by decide +kernel, by decide +kernel⟩
theorem ok_Rules_do_pass (T : Tx w K mg) : FnOk P w K mg base CX0 2 (He.ma K (He.ga K "Rules") "do_pass") (fdOf K (He.ma K (He.ga K "Rules") "do_pass")) ["self"] (spR K fun r => .bl (passes r)) := by
  refine mkOk T.F_Rules_do_pass ⟨rfl, rfl⟩ sc_Rules_do_pass (fun vs H Q E h => ?_) (fun cdv A outer s H vs Q E hr h => ⟨_, (pss_one (ps_ret (pe_and (pe_meth (pv 0) T.c_Rules T.m_Rules_exceeds (ok_Rules_exceeds T) (hr.mono (by decide)) T.B_Rules_exceeds .nil pass0 (pa_cons (pe_fld (pv 0) rfl) pa_nil)) (pe_one (pe_meth (pv 0) T.c_Rules T.m_Rules_exceeds (ok_Rules_exceeds T) (hr.mono (by decide)) T.B_Rules_exceeds .nil pass0 (pa_cons (pe_fld (pv 0) rfl) pa_nil)))))), ?_⟩)
  · (repeat (first | exact congrArg List.length h.1 | obtain ⟨_, h⟩ := h))
  · obtain ⟨a, r, rfl, hr0, q⟩ := h
    obtain ⟨dx, ha⟩ := at_ins hr0
    exact pr_ret (F := H) (ev_andV (by walk_at "ev") fun _ => by walk_at "ev") q H (Ex.refl H)
theorem sc_Rules_by_page : FnScope ["self"] ["self"] d_Rules_by_page.scope := ⟨rfl, rfl, rfl, by decide +kernel, rfl, by decide +kernel, by decide +kernel⟩
theorem ok_Rules_by_page (T : Tx w K mg) : FnOk P w K mg base CX0 3 (He.ma K (He.ga K "Rules") "by_page") (fdOf K (He.ma K (He.ga K "Rules") "by_page")) ["self"] (spR K fun r => .bl (viaPage r)) := by
  refine mkOk T.F_Rules_by_page ⟨rfl, rfl⟩ sc_Rules_by_page (fun vs H Q E h => ?_) (fun cdv A outer s H vs Q E hr h => ⟨_, (pss_one (ps_ret (pe_and (pe_not (pe_fld (pv 0) rfl)) (pe_one (pe_meth0 (pv 0) T.c_Rules T.m_Rules_do_pass (ok_Rules_do_pass T) (hr.mono (by decide)) T.B_Rules_do_pass .nil pass0))))), ?_⟩)
  · (repeat (first | exact congrArg List.length h.1 | obtain ⟨_, h⟩ := h))
  · obtain ⟨a, r, rfl, hr0, q⟩ := h
    obtain ⟨dx, ha⟩ := at_ins hr0
    exact pr_ret (F := H) (ev_andV (by walk_at "ev") fun _ => by walk_at "ev") q H (Ex.refl H)
theorem sc_Rules_by_code : FnScope ["self"] ["self"] d_Rules_by_code.scope := ⟨rfl, rfl, rfl, by decide +kernel, rfl, by decide +kernel, by decide +kernel⟩
theorem ok_Rules_by_code (T : Tx w K mg) : FnOk P w K mg base CX0 2 (He.ma K (He.ga K "Rules") "by_code") (fdOf K (He.ma K (He.ga K "Rules") "by_code")) ["self"] (spR K fun r => .bl (viaCode r)) := by
  refine mkOk T.F_Rules_by_code ⟨rfl, rfl⟩ sc_Rules_by_code (fun vs H Q E h => ?_) (fun cdv A outer s H vs Q E hr h => ⟨_, (pss_cons (ps_if (pt_val (pe_fld (pv 0) rfl)) (pss_one (ps_ret pe_bl)) pss_nil) (pss_one (ps_ret (pe_or (pe_cmpR op_isN (pe_fld (pv 0) rfl) pe_non (nomark _)) (pe_one (pe_cmpR op_le (pe_fld (pv 0) rfl) (pe_op op_add (pe_op op_add (pe_op op_sub (pe_fld (pv 0) rfl) pe_int) (pe_meth0 (pv 0) T.c_Rules T.m_Rules_keying (ok_Rules_keying T) (hr.mono (by decide)) T.B_Rules_keying .nil pass0)) (pe_meth0 (pv 0) T.c_Rules T.m_Rules_granting (ok_Rules_granting T) (hr.mono (by decide)) T.B_Rules_granting .nil pass0)) (nomark _))))))), ?_⟩)
  · (repeat (first | exact congrArg List.length h.1 | obtain ⟨_, h⟩ := h))
  · obtain ⟨a, r, rfl, hr0, q⟩ := h
    obtain ⟨dx, ha⟩ := at_ins hr0
    refine pr_when (F := H) (by walk_at "ev") (fun hb => pr_ret ev_c fun H' e => ?_) (fun hb => pr_ret ?_ q) H (Ex.refl H)
    · refine (?_ : V.bl (viaCode r) = V.bl false) ▸ q H' e
      unfold viaCode; rw [hb]; rfl
    · cases hl : r.life with
      | none =>
        refine ev_is (ev_orV (a := true) (b := true) (ev_is (by walk_at "ev") (by rw [hl]; rfl)) fun h => Bool.noConfusion h) ?_
        show _ = V.bl (viaCode r)
        unfold viaCode; rw [hb, hl]; rfl
      | some n =>
        have h1 := (hr0.1.l1 n hl).1
        refine ev_is (ev_orV (a := false) (ev_is (by walk_at "ev") (by rw [hl]; rfl)) fun _ => ev_int (by walk_at "ev") (ev_int (ev_int (ev_int (i := (n : Int)) (ev_is (by walk_at "ev") (by rw [hl]; rfl)) ev_c) (by walk_at "ev")) (by walk_at "ev"))) ?_
        show _ = V.bl (viaCode r)
        unfold viaCode lateMost; rw [hb, hl]
        show V.bl (false || decide ((r.delay : Int) ≤ (n : Int) - 1 + (typeMost r : Int) + ((r.grant - 1 : Nat) : Int))) = V.bl (true && decide (r.delay ≤ n - 1 + (typeMost r + (r.grant - 1))))
        rw [Bool.false_or, Bool.true_and]; congr 1; exact decide_eq_decide.mpr (by omega)
theorem sc_Rules_can_steal : FnScope ["self"] ["self"] d_Rules_can_steal.scope := ⟨rfl, rfl, rfl, by decide +kernel, rfl, by decide +kernel, by decide +kernel⟩
theorem ok_Rules_can_steal (T : Tx w K mg) : FnOk P w K mg base CX0 4 (He.ma K (He.ga K "Rules") "can_steal") (fdOf K (He.ma K (He.ga K "Rules") "can_steal")) ["self"] (spR K fun r => .bl (theftPossible r)) := by
  refine mkOk T.F_Rules_can_steal ⟨rfl, rfl⟩ sc_Rules_can_steal (fun vs H Q E h => ?_) (fun cdv A outer s H vs Q E hr h => ⟨_, (pss_one (ps_ret (pe_or (pe_meth0 (pv 0) T.c_Rules T.m_Rules_by_page (ok_Rules_by_page T) (hr.mono (by decide)) T.B_Rules_by_page .nil pass0) (pe_one (pe_meth0 (pv 0) T.c_Rules T.m_Rules_by_code (ok_Rules_by_code T) (hr.mono (by decide)) T.B_Rules_by_code .nil pass0))))), ?_⟩)
  · (repeat (first | exact congrArg List.length h.1 | obtain ⟨_, h⟩ := h))
  · obtain ⟨a, r, rfl, hr0, q⟩ := h
    obtain ⟨dx, ha⟩ := at_ins hr0
    exact pr_ret (F := H) (ev_orV (by walk_at "ev") fun _ => by walk_at "ev") q H (Ex.refl H)
theorem sc_Rules_can_foist : FnScope ["self"] ["self"] d_Rules_can_foist.scope := ⟨rfl, rfl, rfl, by decide +kernel, rfl, by decide +kernel, by decide +kernel⟩
theorem ok_Rules_can_foist (T : Tx w K mg) : FnOk P w K mg base CX0 3 (He.ma K (He.ga K "Rules") "can_foist") (fdOf K (He.ma K (He.ga K "Rules") "can_foist")) ["self"] (spR K fun r => .bl (foistPossible r)) := by
  refine mkOk T.F_Rules_can_foist ⟨rfl, rfl⟩ sc_Rules_can_foist (fun vs H Q E h => ?_) (fun cdv A outer s H vs Q E hr h => ⟨_, (pss_one (ps_ret (pe_and (pe_not (pe_fld (pv 0) rfl)) (pe_and (pe_not (pe_fld (pv 0) rfl)) (pe_one (pe_meth0 (pv 0) T.c_Rules T.m_Rules_do_pass (ok_Rules_do_pass T) (hr.mono (by decide)) T.B_Rules_do_pass .nil pass0)))))), ?_⟩)
  · (repeat (first | exact congrArg List.length h.1 | obtain ⟨_, h⟩ := h))
  · obtain ⟨a, r, rfl, hr0, q⟩ := h
    obtain ⟨dx, ha⟩ := at_ins hr0
    refine pr_ret (F := H) (ev_is (ev_andV (by walk_at "ev") fun _ => ev_andV (by walk_at "ev") fun _ => by walk_at "ev") ?_) q H (Ex.refl H)
    show _ = V.bl (foistPossible r)
    unfold foistPossible; rw [Bool.and_assoc]
theorem sc_Rules_longest : FnScope ["self"] ["self"] d_Rules_longest.scope := ⟨rfl, rfl, rfl, by decide +kernel, rfl, by decide +kernel, by decide +kernel⟩
theorem ok_Rules_longest (T : Tx w K mg) : FnOk P w K mg base CX0 5 (He.ma K (He.ga K "Rules") "longest") (fdOf K (He.ma K (He.ga K "Rules") "longest")) ["self"] (spR K fun r => optV (R7239g.Spec.longest r)) := by
  refine mkOk T.F_Rules_longest ⟨rfl, rfl⟩ sc_Rules_longest (fun vs H Q E h => ?_) (fun cdv A outer s H vs Q E hr h => ⟨_, (pss_cons (ps_if (PW.pt (pw_or (pt_not (pt_val (pe_meth0 (pv 0) T.c_Rules T.m_Rules_can_steal (ok_Rules_can_steal T) (hr.mono (by decide)) T.B_Rules_can_steal .nil pass0))) (pw_or1 (pt_cmpR op_isN (pe_fld (pv 0) rfl) pe_non (nomark _))))) (pss_one (ps_ret pe_non)) pss_nil) (pss_one (ps_ret (pe_op op_sub (pe_op op_add (pe_op op_add (pe_meth0 (pv 0) T.c_Rules T.m_Rules_keying (ok_Rules_keying T) (hr.mono (by decide)) T.B_Rules_keying .nil pass0) (pe_meth0 (pv 0) T.c_Rules T.m_Rules_granting (ok_Rules_granting T) (hr.mono (by decide)) T.B_Rules_granting .nil pass0)) (pe_fld (pv 0) rfl)) pe_int)))), ?_⟩)
  · (repeat (first | exact congrArg List.length h.1 | obtain ⟨_, h⟩ := h))
  · obtain ⟨a, r, rfl, hr0, q⟩ := h
    obtain ⟨dx, ha⟩ := at_ins hr0
    cases hs : r.session with
    | none =>
      refine pr_when (F := H) (et_or (by walk_at "ev") fun _ => et_is (by walk_at "ev") (by rw [hs])) (fun hb => pr_ret ev_c fun H' e => ?_) (fun hb => ?_) H (Ex.refl H)
      · refine (?_ : optV (R7239g.Spec.longest r) = V.non) ▸ q H' e
        simp [R7239g.Spec.longest, hs, optV]
      · rw [show decide (optV none = V.non) = true from rfl, Bool.or_true] at hb; cases hb
    | some n =>
      have h1 := (hr0.1.s1 n hs).1
      refine pr_when (F := H) (et_or (b := false) (by walk_at "ev") fun _ => et_is (by walk_at "ev") (by rw [hs]; rfl)) (fun hb => pr_ret ev_c fun H' e => ?_) (fun hb => pr_ret (ev_is (ev_int (ev_int (ev_int (by walk_at "ev") (by walk_at "ev")) (j := (n : Int)) (ev_is (by walk_at "ev") (by rw [hs]; rfl))) ev_c) ?_) q) H (Ex.refl H)
      · refine (?_ : optV (R7239g.Spec.longest r) = V.non) ▸ q H' e
        have h2 : theftPossible r = false := by simpa using hb
        unfold R7239g.Spec.longest; rw [h2]; rfl
      · have h2 : theftPossible r = true := by simpa using hb
        show _ = optV (R7239g.Spec.longest r)
        unfold R7239g.Spec.longest lateMost; rw [h2, hs, if_pos rfl]
        show V.int ((typeMost r : Int) + ((r.grant - 1 : Nat) : Int) + (n : Int) - 1) = V.int ((typeMost r + (r.grant - 1) + (n - 1) : Nat) : Int)
        congr 1; omega
end
end Sl
/-! ## SlRules2 -/
namespace Sl
open PySem PySem.Spec PyProof.Rows L2 Evl
open R7239g.Spec (typeMost lateMost longerThan passes viaPage viaCode theftPossible foistPossible Plain eventPlain pause waitFor)
abbrev Evt := R7239g.Spec.Event
/-! ### told histories -/
abbrev gv (p : Plain) : Val := Rust.given p
def evs (l : List Evt) : List Val := Rust.givenAll (l.map eventPlain)
theorem givenAll_app : ∀ l m : List Plain, Rust.givenAll (l ++ m) = Rust.givenAll l ++ Rust.givenAll m
  | [], m => rfl
  | x :: l, m => by
    show Rust.given x :: Rust.givenAll (l ++ m) = Rust.given x :: (Rust.givenAll l ++ Rust.givenAll m)
    rw [givenAll_app]
theorem givenAll_len : ∀ l : List Plain, (Rust.givenAll l).length = l.length
  | [] => rfl
  | x :: l => by
    show (Rust.given x :: Rust.givenAll l).length = _
    rw [List.length_cons, List.length_cons, givenAll_len]
theorem evs_app (l m : List Evt) : evs (l ++ m) = evs l ++ evs m := by unfold evs; rw [List.map_append, givenAll_app]
theorem evs_len (l : List Evt) : (evs l).length = l.length := by unfold evs; rw [givenAll_len, List.length_map]
theorem gv_hist (l : List Evt) : gv (R7239g.Spec.historyPlain (some l)) = .list (evs l) := rfl
theorem pause_len (n : Nat) : (pause n).length ≤ 1 := by unfold pause; split <;> simp
theorem typed_len (r : SR) (n p : Nat) : (R7239g.Spec.typed r n p).length ≤ 2 := by
  have := pause_len n
  unfold R7239g.Spec.typed
  split
  · exact Nat.zero_le _
  · rw [List.length_append]; show (pause n).length + 1 ≤ 2; omega
section
variable {σ : L2.St} {F : Hp} {te : TE} {c : TT} {tu tz : TS} {D : Ends} {v : V} {b : Bool}
theorem pr_asg1 {i : Nat} (h : Ev te σ F v) (k : ∀ H, Ex F H → D.nx (σ.set i (some v)) H) : Pr (tAsg te (gName i)) D σ F := fun H e => h H e _ fun H1 e1 => k H1 (e.trans e1)
theorem pr_whenJ (S : L2.St) (h : EvT c σ F b) (k : Pr tz D S F) (h1 : b = true → Pr tz D S F → Pr tu { D with nx := tz D } σ F) (h2 : b = false → Pr tz D S F → Pr tz D σ F) : Pr (tSeq (tIfS c tu tNext) tz) D σ F := pr_when h (fun e => h1 e k) fun e => h2 e k
end
/-! the steps' lists as they are made -/
section
variable {K : PySem.W.Frag} {σ : L2.St} {F : Hp} {ta tb te tf : TE} {n m : Nat}
theorem gv_one {tr : TA} {l : List Val} (h : EgVs K tr σ F l) (hl : Nat.ble l.length 100000 = true) : EgV K (tLst (tCons (tLst tr) tNil)) σ F (.list [.list l]) := gv_lst (gvs_cons (gv_lst h hl) gvs_nil) rfl
theorem gv_ask (h : Ev te σ F (.int n)) : EgV K (tLst (tCons (tLst (tCons (tC (.str "ask")) (tCons te tNil))) tNil)) σ F (.list (evs [.ask n])) :=
  gv_one (gvs_cons (gv_str (u := (R7239g.Spec.units "ask").map Rust.octetOf) ev_c (by decide +kernel)) (gvs_cons (gv_int h) gvs_nil)) rfl
theorem gv_tick (h : Ev te σ F (.int n)) : EgV K (tLst (tCons (tLst (tCons (tC (.str "tick")) (tCons te tNil))) tNil)) σ F (.list (evs [.tick n])) :=
  gv_one (gvs_cons (gv_str (u := (R7239g.Spec.units "tick").map Rust.octetOf) ev_c (by decide +kernel)) (gvs_cons (gv_int h) gvs_nil)) rfl
theorem gv_scan (h : Ev te σ F (.int n)) (h2 : Ev tf σ F (.int m)) : EgV K (tLst (tCons (tLst (tCons (tC (.str "scan")) (tCons te (tCons tf tNil)))) tNil)) σ F (.list (evs [.scan n m])) :=
  gv_one (gvs_cons (gv_str (u := (R7239g.Spec.units "scan").map Rust.octetOf) ev_c (by decide +kernel)) (gvs_cons (gv_int h) (gvs_cons (gv_int h2) gvs_nil))) rfl
theorem gv_type (h : Ev te σ F (.int n)) (h2 : Ev tf σ F (.int m)) : EgV K (tLst (tCons (tLst (tCons (tC (.str "type")) (tCons te (tCons tf tNil)))) tNil)) σ F (.list (evs [.type n m])) :=
  gv_one (gvs_cons (gv_str (u := (R7239g.Spec.units "type").map Rust.octetOf) ev_c (by decide +kernel)) (gvs_cons (gv_int h) (gvs_cons (gv_int h2) gvs_nil))) rfl
theorem gv_coll (h : Ev te σ F (.int n)) (h2 : Ev tf σ F (.int m)) : EgV K (tLst (tCons (tLst (tCons (tC (.str "collect")) (tCons te (tCons tf tNil)))) tNil)) σ F (.list (evs [.collect n m])) :=
  gv_one (gvs_cons (gv_str (u := (R7239g.Spec.units "collect").map Rust.octetOf) ev_c (by decide +kernel)) (gvs_cons (gv_int h) (gvs_cons (gv_int h2) gvs_nil))) rfl
theorem gv_catE {l m : List Evt} (h1 : EgV K ta σ F (.list (evs l))) (h2 : EgV K tb σ F (.list (evs m))) (hl : l.length + m.length ≤ 100000) : EgV K (tOp rCat ta tb) σ F (.list (evs (l ++ m))) := by
  rw [evs_app]
  exact gv_cat h1 h2 (by rw [evs_len, evs_len]; exact hl)
theorem gv_varE {i : Nat} {v : V} {x : Val} (h : σ[i]? = some (some v)) (hv : ValAt K F v x) : EgV K (tVar i) σ F x := eg_ev (ev_var h) fun H2 x2 => hv.mono x2
end
/-- a method of rules and some numbers that tells a value of the document -/
def spW (K : PySem.W.Frag) : Sp := fun vs H Q _ => ∃ (a : Addr) (r : SR) (n : Nat), vs = [.ref a, .int n] ∧ RulesAt K H a r ∧ ∀ v H', Ex H H' → ValAt K H' v (.list (evs (pause n))) → Q v H'
theorem spW_go {K : PySem.W.Frag} {F : Hp} {a : Addr} {r : SR} {n : Nat} (h : RulesAt K F a r) : SpG (spW K) [.ref a, .int n] F fun v H => ValAt K H v (.list (evs (pause n))) := fun H1 e Q E q => ⟨a, r, n, rfl, h.mono e, q⟩
def spT (K : PySem.W.Frag) : Sp := fun vs H Q _ => ∃ (a : Addr) (r : SR) (n p : Nat), vs = [.ref a, .int n, .int p] ∧ RulesAt K H a r ∧ ∀ v H', Ex H H' → ValAt K H' v (.list (evs (R7239g.Spec.typed r n p))) → Q v H'
theorem spT_go {K : PySem.W.Frag} {F : Hp} {a : Addr} {r : SR} {n p : Nat} (h : RulesAt K F a r) : SpG (spT K) [.ref a, .int n, .int p] F fun v H => ValAt K H v (.list (evs (R7239g.Spec.typed r n p))) := fun H1 e Q E q => ⟨a, r, n, p, rfl, h.mono e, q⟩
/-- .. that tells a value of the document, from rules alone -/
def spV (K : PySem.W.Frag) (f : SR → Val) : Sp := fun vs H Q _ => ∃ (a : Addr) (r : SR), vs = [.ref a] ∧ RulesAt K H a r ∧ ∀ v H', Ex H H' → ValAt K H' v (f r) → Q v H'
def spSign (K : PySem.W.Frag) : Sp := fun vs H Q _ => ∃ (a : Addr) (r : SR) (u v k : Nat), vs = [.ref a, .int u, .int v, .int k] ∧ RulesAt K H a r ∧
  ∀ x H', Ex H H' → ValAt K H' x (gv (R7239g.Spec.historyPlain (if R7239g.Spec.usable r u v k then some (R7239g.Spec.signIn r u v k) else none))) → Q x H'
section
variable {K : PySem.W.Frag} {σ : L2.St} {F : Hp} {to te tf : TE} {a : Addr} {r : SR} {n p : Nat} {E : XK}
theorem gv_waited (hr : RulesAt K F a r) (ho : Ev to σ F (.ref a)) (h : Ev te σ F (.int n)) : EgV K (tMeth (He.ga K "Rules") "waited" (spW K) [] E to (tCons te tNil)) σ F (.list (evs (pause n))) := by
  obtain ⟨dx, ha⟩ := at_ins hr
  exact eg_meth ho ha rfl (ea_cons h ea_nil) (spW_go hr)
theorem gv_typed (hr : RulesAt K F a r) (ho : Ev to σ F (.ref a)) (h : Ev te σ F (.int n)) (h2 : Ev tf σ F (.int p)) : EgV K (tMeth (He.ga K "Rules") "typed" (spT K) [] E to (tCons te (tCons tf tNil))) σ F (.list (evs (R7239g.Spec.typed r n p))) := by
  obtain ⟨dx, ha⟩ := at_ins hr
  exact eg_meth ho ha rfl (ea_cons h (ea_cons h2 ea_nil)) (spT_go hr)
end
local macro_rules
  | `(tactic| walk_at "ev") => `(tactic| first
    | exact ev_c
    | exact ev_var rfl
    | (refine' ev_fld ?k1 ?k2 ?k3 ?k4 ?k5; (case k1 => walk_at "ev"); (case k2 => assumption); (case k3 => exact Tx.cl (by assumption) rfl); (case k4 => exact Tx.na (by assumption) rfl); (case k5 => rfl))
    | (refine' ev_meth ?k1 ?k2 ?k3 ?k4 ?k5; (case k1 => walk_at "ev"); (case k2 => assumption); (case k3 => rfl); (case k4 => walk_at "ev"); (case k5 => walk_at "sp"))
    | (refine' ev_callG ?k1 ?k2; (case k1 => walk_at "ev"); (case k2 => walk_at "sp"))
    | (refine' ev_isN ?k1; (case k1 => walk_at "ev"))
    | (refine' ev_notN ?k1; (case k1 => walk_at "ev"))
    | (refine' ev_int ?k1 ?k2; (case k1 => walk_at "ev"); (case k2 => walk_at "ev"))
    | (refine' ev_sc ?k1 ?k2 ?k3; (case k1 => walk_at "ev"); (case k2 => walk_at "ev"); (case k3 => rfl))
    | (refine' ev_scn ?k1 ?k2 ?k3; (case k1 => walk_at "ev"); (case k2 => walk_at "ev"); (case k3 => rfl))
    | (refine' ev_notV ?k1; (case k1 => walk_at "ev"))
    | (refine' ev_andV ?k1 ?k2; (case k1 => walk_at "ev"); (case k2 => intro _; walk_at "ev"))
    | (refine' ev_orV ?k1 ?k2; (case k1 => walk_at "ev"); (case k2 => intro _; walk_at "ev"))
    | (refine' et_test ?k1; (case k1 => walk_at "ev"))
    | (refine' et_B ?k1; (case k1 => walk_at "ev"))
    | (refine' et_and ?k1 ?k2; (case k1 => walk_at "ev"); (case k2 => intro _; walk_at "ev"))
    | (refine' et_or ?k1 ?k2; (case k1 => walk_at "ev"); (case k2 => intro _; walk_at "ev"))
    | (refine' et_not ?k1; (case k1 => walk_at "ev"))
    | exact ea_nil
    | (refine' ea_cons ?k1 ?k2; (case k1 => walk_at "ev"); (case k2 => walk_at "ev")))
local macro_rules
  | `(tactic| walk_at "sp") => `(tactic| first | exact spR_go (by assumption) | exact spExc_go (by assumption))
section
variable {P : Program} {w : World} {K : PySem.W.Frag} {mg : Str → Option Value} {base : Heap}
theorem sc_Rules_greatest_life : FnScope ["self"] ["self"] d_Rules_greatest_life.scope := ⟨rfl, rfl, rfl, by decide +kernel, rfl, by decide +kernel, by decide +kernel⟩
theorem ok_Rules_greatest_life (T : Tx w K mg) : FnOk P w K mg base CX0 2 (He.ma K (He.ga K "Rules") "greatest_life") (fdOf K (He.ma K (He.ga K "Rules") "greatest_life")) ["self"] (spR K fun r => optV (R7239g.Spec.greatestLife r)) := by
  refine mkOk T.F_Rules_greatest_life ⟨rfl, rfl⟩ sc_Rules_greatest_life (fun vs H Q E h => ?_) (fun cdv A outer s H vs Q E hr h => ⟨_, (pss_cons (ps_if (pt_not (pt_val (pe_fld (pv 0) rfl))) (pss_one (ps_ret (pe_callB (call_max2 rfl) (by rfl) T.f_max (by decide +kernel) (pa_cons pe_int (pa_cons (pe_op op_sub (pe_op op_sub (pe_fld (pv 0) rfl) (pe_meth0 (pv 0) T.c_Rules T.m_Rules_keying (ok_Rules_keying T) (hr.mono (by decide)) T.B_Rules_keying .nil pass0)) (pe_meth0 (pv 0) T.c_Rules T.m_Rules_granting (ok_Rules_granting T) (hr.mono (by decide)) T.B_Rules_granting .nil pass0)) pa_nil))))) pss_nil) (pss_one (ps_ret (pe_ifExp (PW.pt (pw_and (pt_not (pt_val (pe_fld (pv 0) rfl))) (pw_and1 (pt_val (pe_meth (pv 0) T.c_Rules T.m_Rules_exceeds (ok_Rules_exceeds T) (hr.mono (by decide)) T.B_Rules_exceeds .nil pass0 (pa_cons (pe_fld (pv 0) rfl) pa_nil)))))) (pe_fld (pv 0) rfl) pe_non)))), ?_⟩)
  · (repeat (first | exact congrArg List.length h.1 | obtain ⟨_, h⟩ := h))
  · obtain ⟨a, r, rfl, hr0, q⟩ := h
    obtain ⟨dx, ha⟩ := at_ins hr0
    refine pr_when (F := H) (by walk_at "ev") (fun hb => pr_ret (ev_max2 (by walk_at "ev") (by walk_at "ev")) fun H' e => ?_) (fun hb => pr_ret ?_ q) H (Ex.refl H)
    · refine (?_ : optV (R7239g.Spec.greatestLife r) = V.int _) ▸ q H' e
      unfold R7239g.Spec.greatestLife lateMost; rw [hb, if_pos rfl]
      have h1 : (r.delay : Int) - (typeMost r : Int) - ((r.grant - 1 : Nat) : Int) > 0 ∨ ¬ (r.delay : Int) - (typeMost r : Int) - ((r.grant - 1 : Nat) : Int) > 0 := Classical.em _
      show V.int ((r.delay - (typeMost r + (r.grant - 1)) : Nat) : Int) = V.int (if (r.delay : Int) - (typeMost r : Int) - ((r.grant - 1 : Nat) : Int) > 0 then (r.delay : Int) - (typeMost r : Int) - ((r.grant - 1 : Nat) : Int) else 0)
      rcases h1 with h1 | h1
      · rw [if_pos h1]; congr 1; omega
      · rw [if_neg h1]; congr 1; omega
    · refine ev_if (b := !r.near && longerThan r.delay r.number) (et_and (by walk_at "ev") fun _ => by walk_at "ev") (fun h2 => ev_is (by walk_at "ev") ?_) fun h2 => ev_is ev_c ?_
      · show _ = optV (R7239g.Spec.greatestLife r)
        unfold R7239g.Spec.greatestLife; rw [hb, h2]; rfl
      · show _ = optV (R7239g.Spec.greatestLife r)
        unfold R7239g.Spec.greatestLife; rw [hb, h2]; rfl
theorem sc_Rules_waited : FnScope ["self", "ticks"] ["self", "ticks"] d_Rules_waited.scope := ⟨rfl, rfl, rfl, by decide +kernel, rfl, by decide +kernel, by decide +kernel⟩
theorem ok_Rules_waited (T : Tx w K mg) : FnOk P w K mg base CX0 1 (He.ma K (He.ga K "Rules") "waited") (fdOf K (He.ma K (He.ga K "Rules") "waited")) ["self", "ticks"] (spW K) := by
  refine mkOk T.F_Rules_waited ⟨rfl, rfl⟩ sc_Rules_waited (fun vs H Q E h => ?_) (fun cdv A outer s H vs Q E hr h => ⟨_, (pss_one (ps_ret (pe_ifExp (pt_cmpR op_eq (pv 1) pe_int (nomark _)) (pe_lst pa_nil) (pe_lst (pa_cons (pe_lst (pa_cons pe_str (pa_cons (pv 1) pa_nil))) pa_nil))))), ?_⟩)
  · (repeat (first | exact congrArg List.length h.1 | obtain ⟨_, h⟩ := h))
  · obtain ⟨a, r, n, rfl, hr0, q⟩ := h
    refine pr_retG (F := H) (P := fun v H => ValAt K H v (.list (evs (pause n)))) ?_ q H (Ex.refl H)
    refine gv_if (by walk_at "ev") (fun h0 => ?_) fun h0 => ?_
    · have e : n = 0 := by have := of_decide_eq_true h0; injection this with e; omega
      subst e
      exact gv_lst gvs_nil rfl
    · have e : n ≠ 0 := fun z => by subst z; exact absurd h0 (by decide)
      unfold pause; rw [if_neg e]
      exact gv_tick (by walk_at "ev")
theorem sc_Rules_typed : FnScope ["self", "ticks", "phone"] ["self", "ticks", "phone"] d_Rules_typed.scope := ⟨rfl, rfl, rfl, by decide +kernel, rfl, by decide +kernel, by decide +kernel⟩
theorem ok_Rules_typed (T : Tx w K mg) : FnOk P w K mg base CX0 2 (He.ma K (He.ga K "Rules") "typed") (fdOf K (He.ma K (He.ga K "Rules") "typed")) ["self", "ticks", "phone"] (spT K) := by
  refine mkOk T.F_Rules_typed ⟨rfl, rfl⟩ sc_Rules_typed (fun vs H Q E h => ?_) (fun cdv A outer s H vs Q E hr h => ⟨_, (pss_one (ps_ret (pe_ifExp (pt_cmpR op_isN (pe_fld (pv 0) rfl) pe_non (nomark _)) (pe_lst pa_nil) (pe_op op_cat (pe_meth (pv 0) T.c_Rules T.m_Rules_waited (ok_Rules_waited T) (hr.mono (by decide)) T.B_Rules_waited .nil pass0 (pa_cons (pv 1) pa_nil)) (pe_lst (pa_cons (pe_lst (pa_cons pe_str (pa_cons (pv 2) (pa_cons pe_int pa_nil)))) pa_nil)))))), ?_⟩)
  · (repeat (first | exact congrArg List.length h.1 | obtain ⟨_, h⟩ := h))
  · obtain ⟨a, r, n, p, rfl, hr0, q⟩ := h
    obtain ⟨dx, ha⟩ := at_ins hr0
    refine pr_retG (F := H) (P := fun v H => ValAt K H v (.list (evs (R7239g.Spec.typed r n p)))) ?_ q H (Ex.refl H)
    cases hn : r.number with
    | none =>
      refine gv_if (b := true) (et_is (by walk_at "ev") (by rw [hn]; rfl)) (fun h0 => ?_) fun h0 => Bool.noConfusion h0
      have e : R7239g.Spec.typed r n p = [] := by unfold R7239g.Spec.typed; rw [hn]; rfl
      rw [e]
      exact gv_lst gvs_nil rfl
    | some k =>
      refine gv_if (b := false) (et_is (by walk_at "ev") (by rw [hn]; rfl)) (fun h0 => Bool.noConfusion h0) fun h0 => ?_
      have e : R7239g.Spec.typed r n p = pause n ++ [.type p 0] := by unfold R7239g.Spec.typed; rw [hn]; rfl
      rw [e]
      refine gv_catE (gv_waited hr0 (by walk_at "ev") (by walk_at "ev")) (gv_type (by walk_at "ev") (by walk_at "ev")) ?_
      have := pause_len n
      rw [List.length_singleton]; omega
theorem sc_Rules_theft : FnScope ["self", "asker", "ticks", "found"] ["self"] d_Rules_theft.scope := ⟨rfl, rfl, rfl, by decide +kernel, rfl, by decide +kernel, by decide +kernel⟩
theorem ok_Rules_theft (T : Tx w K mg) : FnOk P w K mg base CX0 5 (He.ma K (He.ga K "Rules") "theft") (fdOf K (He.ma K (He.ga K "Rules") "theft")) ["self"] (spV K fun r => gv (R7239g.Spec.historyPlain (R7239g.Spec.theft r))) := by
  refine mkOk T.F_Rules_theft ⟨rfl, rfl⟩ sc_Rules_theft (fun vs H Q E h => ?_) (fun cdv A outer s H vs Q E hr h => ⟨_, (pss_cons (ps_if (pt_not (pt_val (pe_meth0 (pv 0) T.c_Rules T.m_Rules_can_steal (ok_Rules_can_steal T) (hr.mono (by decide)) T.B_Rules_can_steal .nil pass0))) (pss_one (ps_ret pe_non)) pss_nil) (pss_cons (ps_par (i := 1) (j := 2) rfl sc_Rules_theft.nd rfl rfl (by decide) rfl rfl (pa_cons (pe_fld (pv 0) rfl) (pa_cons (pe_fld (pv 0) rfl) pa_nil)) (by rfl)) (pss_cons (ps_if (pt_not (pt_val (pe_meth0 (pv 0) T.c_Rules T.m_Rules_by_page (ok_Rules_by_page T) (hr.mono (by decide)) T.B_Rules_by_page .nil pass0))) (pss_cons (ps_set (i := 1) sc_Rules_theft.nd rfl (Or.inl rfl) pe_int) (pss_one (ps_set (i := 2) sc_Rules_theft.nd rfl (Or.inl rfl) (pe_ifExp (pt_val (pe_meth (pv 0) T.c_Rules T.m_Rules_exceeds (ok_Rules_exceeds T) (hr.mono (by decide)) T.B_Rules_exceeds .nil pass0 (pa_cons (pe_fld (pv 0) rfl) pa_nil))) (pe_fld (pv 0) rfl) (pe_op op_sub (pe_fld (pv 0) rfl) pe_int))))) pss_nil) (pss_cons (ps_set (i := 3) sc_Rules_theft.nd rfl (Or.inl rfl) (pe_op op_cat (pe_op op_cat (pe_op op_cat (pe_lst (pa_cons (pe_lst (pa_cons pe_str (pa_cons (pv 1) pa_nil))) pa_nil)) (pe_meth (pv 0) T.c_Rules T.m_Rules_waited (ok_Rules_waited T) (hr.mono (by decide)) T.B_Rules_waited .nil pass0 (pa_cons (pv 2) pa_nil))) (pe_lst (pa_cons (pe_lst (pa_cons pe_str (pa_cons pe_int (pa_cons pe_int pa_nil)))) pa_nil))) (pe_meth (pv 0) T.c_Rules T.m_Rules_typed (ok_Rules_typed T) (hr.mono (by decide)) T.B_Rules_typed .nil pass0 (pa_cons (pe_meth0 (pv 0) T.c_Rules T.m_Rules_keying (ok_Rules_keying T) (hr.mono (by decide)) T.B_Rules_keying .nil pass0) (pa_cons pe_int pa_nil))))) (pss_one (ps_ret (pe_op op_cat (pe_op op_cat (pv 3) (pe_meth (pv 0) T.c_Rules T.m_Rules_waited (ok_Rules_waited T) (hr.mono (by decide)) T.B_Rules_waited .nil pass0 (pa_cons (pe_meth0 (pv 0) T.c_Rules T.m_Rules_granting (ok_Rules_granting T) (hr.mono (by decide)) T.B_Rules_granting .nil pass0) pa_nil))) (pe_lst (pa_cons (pe_lst (pa_cons pe_str (pa_cons (pe_fld (pv 0) rfl) (pa_cons pe_int pa_nil)))) pa_nil))))))))), ?_⟩)
  · (repeat (first | exact congrArg List.length h.1 | obtain ⟨_, h⟩ := h))
  · obtain ⟨a, r, rfl, hr0, q⟩ := h
    obtain ⟨dx, ha⟩ := at_ins hr0
    replace q : ∀ v H', Ex H H' → ValAt K H' v (gv (R7239g.Spec.historyPlain (R7239g.Spec.theft r))) → Q v H' := q
    refine pr_when (F := H) (by walk_at "ev") (fun hb => pr_ret ev_c fun H' e => q _ H' e ?_) (fun hb => pr_par (by walk_at "ev") ?_) H (Ex.refl H)
    · have h2 : theftPossible r = false := by simpa using hb
      unfold R7239g.Spec.theft; rw [h2]; show ValAt K H' V.non .null; unfold ValAt; rfl
    · have h2 : theftPossible r = true := by simpa using hb
      refine pr_whenJ [some (.ref a), some (.int ((if viaPage r then r.owners else 0 : Nat) : Int)), some (.int ((if viaPage r then r.delay else waitFor r : Nat) : Int)), none] (by walk_at "ev") ?_ (fun hb2 k => ?_) fun hb2 k => ?_
      · generalize hak : (if viaPage r then r.owners else 0 : Nat) = ak
        generalize htk : (if viaPage r then r.delay else waitFor r : Nat) = tk
        have e0 : R7239g.Spec.theftHistory r = [.ask ak] ++ pause tk ++ [.scan 0 0] ++ R7239g.Spec.typed r (typeMost r) 0 ++ pause (r.grant - 1) ++ [.collect r.owners 0] := by
          unfold R7239g.Spec.theftHistory R7239g.Spec.theftStart
          rw [← hak, ← htk]
          cases viaPage r <;> rfl
        have e1 : gv (R7239g.Spec.historyPlain (R7239g.Spec.theft r)) = .list (evs ([.ask ak] ++ pause tk ++ [.scan 0 0] ++ R7239g.Spec.typed r (typeMost r) 0 ++ pause (r.grant - 1) ++ [.collect r.owners 0])) := by
          unfold R7239g.Spec.theft; rw [h2, if_pos rfl, e0]; rfl
        rw [e1] at q
        have l1 := pause_len tk
        have l2 := typed_len r (typeMost r) 0
        have l3 := pause_len (r.grant - 1)
        refine pr_asgG (P := fun v H => ValAt K H v (.list (evs ([.ask ak] ++ pause tk ++ [.scan 0 0] ++ R7239g.Spec.typed r (typeMost r) 0)))) ?_ fun v H1 x1 hv => ?_
        · refine gv_catE (gv_catE (gv_catE (gv_ask (by walk_at "ev")) (gv_waited hr0 (by walk_at "ev") (by walk_at "ev")) ?_) (gv_scan ev_c ev_c) ?_) (gv_typed hr0 (by walk_at "ev") (by walk_at "ev") ev_c) ?_ <;> (simp only [List.length_append, List.length_singleton]; omega)
        · have hr1 := hr0.mono x1
          have ha1 := x1 _ _ ha
          refine pr_retG (P := fun v H => ValAt K H v (.list (evs ([.ask ak] ++ pause tk ++ [.scan 0 0] ++ R7239g.Spec.typed r (typeMost r) 0 ++ pause (r.grant - 1) ++ [.collect r.owners 0])))) ?_ fun v H' e hv' => q v H' (x1.trans e) hv'
          refine gv_catE (gv_catE (gv_varE rfl hv) (gv_waited hr1 (by walk_at "ev") (by walk_at "ev")) ?_) (gv_coll (by walk_at "ev") ev_c) ?_ <;> (simp only [List.length_append, List.length_singleton]; omega)
      · have hp : viaPage r = false := by simpa using hb2
        rw [hp] at k
        refine pr_asg ev_c (pr_asg1 (v := .int (waitFor r : Int)) ?_ fun H1 x1 => k H1 x1)
        cases hl : r.life with
        | none =>
          refine ev_is (ev_iteT (et_is (by walk_at "ev") (by rw [hl]; rfl)) (by walk_at "ev")) ?_
          unfold waitFor; rw [hl]
        | some n =>
          have h1 := (hr0.1.l1 n hl).1
          refine ev_if (b := decide (r.delay < n)) (et_is (by walk_at "ev") (by rw [hl]; rfl)) (fun h3 => ev_is (by walk_at "ev") ?_) fun h3 => ev_is (ev_int (i := (n : Int)) (ev_is (by walk_at "ev") (by rw [hl]; rfl)) ev_c) ?_
          · have h4 := of_decide_eq_true h3
            unfold waitFor; rw [hl]; show _ = V.int ((if r.delay < n then r.delay else n - 1 : Nat) : Int); rw [if_pos h4]
          · have h4 := of_decide_eq_false h3
            unfold waitFor; rw [hl]; show _ = V.int ((if r.delay < n then r.delay else n - 1 : Nat) : Int); rw [if_neg h4]
            show V.int ((n : Int) - 1) = V.int ((n - 1 : Nat) : Int)
            congr 1; omega
      · have hp : viaPage r = true := by simpa using hb2
        rw [hp] at k
        exact k
theorem sc_Rules_foist : FnScope ["self", "found"] ["self"] d_Rules_foist.scope := ⟨rfl, rfl, rfl, by decide +kernel, rfl, by decide +kernel, by decide +kernel⟩
theorem ok_Rules_foist (T : Tx w K mg) : FnOk P w K mg base CX0 4 (He.ma K (He.ga K "Rules") "foist") (fdOf K (He.ma K (He.ga K "Rules") "foist")) ["self"] (spV K fun r => gv (R7239g.Spec.historyPlain (R7239g.Spec.foist r))) := by
  refine mkOk T.F_Rules_foist ⟨rfl, rfl⟩ sc_Rules_foist (fun vs H Q E h => ?_) (fun cdv A outer s H vs Q E hr h => ⟨_, (pss_cons (ps_if (pt_not (pt_val (pe_meth0 (pv 0) T.c_Rules T.m_Rules_can_foist (ok_Rules_can_foist T) (hr.mono (by decide)) T.B_Rules_can_foist .nil pass0))) (pss_one (ps_ret pe_non)) pss_nil) (pss_cons (ps_set (i := 1) sc_Rules_foist.nd rfl (Or.inl rfl) (pe_op op_cat (pe_op op_cat (pe_lst (pa_cons (pe_lst (pa_cons pe_str (pa_cons pe_int pa_nil))) pa_nil)) (pe_meth (pv 0) T.c_Rules T.m_Rules_waited (ok_Rules_waited T) (hr.mono (by decide)) T.B_Rules_waited .nil pass0 (pa_cons (pe_fld (pv 0) rfl) pa_nil))) (pe_lst (pa_cons (pe_lst (pa_cons pe_str (pa_cons (pe_fld (pv 0) rfl) (pa_cons pe_int pa_nil)))) pa_nil)))) (pss_one (ps_ret (pe_op op_cat (pe_op op_cat (pv 1) (pe_meth (pv 0) T.c_Rules T.m_Rules_typed (ok_Rules_typed T) (hr.mono (by decide)) T.B_Rules_typed .nil pass0 (pa_cons (pe_fld (pv 0) rfl) (pa_cons (pe_fld (pv 0) rfl) pa_nil)))) (pe_lst (pa_cons (pe_lst (pa_cons pe_str (pa_cons pe_int (pa_cons pe_int pa_nil)))) pa_nil))))))), ?_⟩)
  · (repeat (first | exact congrArg List.length h.1 | obtain ⟨_, h⟩ := h))
  · obtain ⟨a, r, rfl, hr0, q⟩ := h
    obtain ⟨dx, ha⟩ := at_ins hr0
    replace q : ∀ v H', Ex H H' → ValAt K H' v (gv (R7239g.Spec.historyPlain (R7239g.Spec.foist r))) → Q v H' := q
    refine pr_when (F := H) (by walk_at "ev") (fun hb => pr_ret ev_c fun H' e => q _ H' e ?_) (fun hb => ?_) H (Ex.refl H)
    · have h2 : foistPossible r = false := by simpa using hb
      unfold R7239g.Spec.foist; rw [h2]; show ValAt K H' V.non .null; unfold ValAt; rfl
    · have h2 : foistPossible r = true := by simpa using hb
      have e1 : gv (R7239g.Spec.historyPlain (R7239g.Spec.foist r)) = .list (evs ([.ask 0] ++ pause r.delay ++ [.scan r.owners 0] ++ R7239g.Spec.typed r r.delay r.owners ++ [.collect 0 0])) := by
        unfold R7239g.Spec.foist; rw [h2, if_pos rfl]; rfl
      rw [e1] at q
      have l1 := pause_len r.delay
      have l2 := typed_len r r.delay r.owners
      refine pr_asgG (P := fun v H => ValAt K H v (.list (evs ([.ask 0] ++ pause r.delay ++ [.scan r.owners 0])))) ?_ fun v H1 x1 hv => ?_
      · refine gv_catE (gv_catE (gv_ask ev_c) (gv_waited hr0 (by walk_at "ev") (by walk_at "ev")) ?_) (gv_scan (by walk_at "ev") ev_c) ?_ <;> (simp only [List.length_append, List.length_singleton]; omega)
      · have hr1 := hr0.mono x1
        have ha1 := x1 _ _ ha
        refine pr_retG (P := fun v H => ValAt K H v (.list (evs ([.ask 0] ++ pause r.delay ++ [.scan r.owners 0] ++ R7239g.Spec.typed r r.delay r.owners ++ [.collect 0 0])))) ?_ fun v H' e hv' => q v H' (x1.trans e) hv'
        refine gv_catE (gv_catE (gv_varE rfl hv) (gv_typed hr1 (by walk_at "ev") (by walk_at "ev") (by walk_at "ev")) ?_) (gv_coll ev_c ev_c) ?_ <;> (simp only [List.length_append, List.length_singleton]; omega)
theorem sc_Rules_sign_in : FnScope ["self", "scan", "keying", "collect", "is_late", "found"] ["self", "scan", "keying", "collect"] d_Rules_sign_in.scope := ⟨rfl, rfl, rfl, by decide +kernel, rfl, by decide +kernel, by decide +kernel⟩
theorem ok_Rules_sign_in (T : Tx w K mg) : FnOk P w K mg base CX0 3 (He.ma K (He.ga K "Rules") "sign_in") (fdOf K (He.ma K (He.ga K "Rules") "sign_in")) ["self", "scan", "keying", "collect"] (spSign K) := by
  refine mkOk T.F_Rules_sign_in ⟨rfl, rfl⟩ sc_Rules_sign_in (fun vs H Q E h => ?_) (fun cdv A outer s H vs Q E hr h => ⟨_, (pss_cons (ps_set (i := 4) sc_Rules_sign_in.nd rfl (Or.inl rfl) (pe_or (pe_and (pe_cmpR op_notN (pe_fld (pv 0) rfl) pe_non (nomark _)) (pe_one (pe_cmpR op_ge (pv 1) (pe_fld (pv 0) rfl) (nomark _)))) (pe_one (pe_and (pe_cmpR op_notN (pe_fld (pv 0) rfl) pe_non (nomark _)) (pe_one (pe_cmpR op_ge (pv 2) (pe_fld (pv 0) rfl) (nomark _))))))) (pss_cons (ps_if (PW.pt (pw_or (pt_val (pv 4)) (pw_or1 (pt_cmpR op_ge (pv 3) (pe_fld (pv 0) rfl) (nomark _))))) (pss_one (ps_ret pe_non)) pss_nil) (pss_cons (ps_set (i := 5) sc_Rules_sign_in.nd rfl (Or.inl rfl) (pe_op op_cat (pe_op op_cat (pe_op op_cat (pe_lst (pa_cons (pe_lst (pa_cons pe_str (pa_cons pe_int pa_nil))) pa_nil)) (pe_meth (pv 0) T.c_Rules T.m_Rules_waited (ok_Rules_waited T) (hr.mono (by decide)) T.B_Rules_waited .nil pass0 (pa_cons (pv 1) pa_nil))) (pe_lst (pa_cons (pe_lst (pa_cons pe_str (pa_cons pe_int (pa_cons pe_int pa_nil)))) pa_nil))) (pe_meth (pv 0) T.c_Rules T.m_Rules_typed (ok_Rules_typed T) (hr.mono (by decide)) T.B_Rules_typed .nil pass0 (pa_cons (pv 2) (pa_cons pe_int pa_nil))))) (pss_one (ps_ret (pe_op op_cat (pe_op op_cat (pv 5) (pe_meth (pv 0) T.c_Rules T.m_Rules_waited (ok_Rules_waited T) (hr.mono (by decide)) T.B_Rules_waited .nil pass0 (pa_cons (pv 3) pa_nil))) (pe_lst (pa_cons (pe_lst (pa_cons pe_str (pa_cons pe_int (pa_cons pe_int pa_nil)))) pa_nil)))))))), ?_⟩)
  · (repeat (first | exact congrArg List.length h.1 | obtain ⟨_, h⟩ := h))
  · obtain ⟨a, r, u, v, k, rfl, hr0, q⟩ := h
    obtain ⟨dx, ha⟩ := at_ins hr0
    have one : ∀ (i : Nat) (f : Str) (x : Nat) (o : Option Nat), Ev (tFld K (tVar 0) f) [some (.ref a), some (.int u), some (.int v), some (.int k), none, none] H (optV o) → ([some (.ref a), some (.int u), some (.int v), some (.int k), none, none] : L2.St)[i]? = some (some (.int x)) →
        Ev (tAndV (tOp (fun x y H Q => y = .non ∧ Q (.bl (!decide (x = .non))) H) (tFld K (tVar 0) f) (tC .non)) (tOp (rI0 fun i j => .bl (decide (j ≤ i))) (tVar i) (tFld K (tVar 0) f))) [some (.ref a), some (.int u), some (.int v), some (.int k), none, none] H (.bl (!longerThan x o)) := by
      intro i f x o hf hx
      cases o with
      | none => exact ev_andV (a := false) (b := false) (ev_is (ev_notN hf) rfl) fun h => Bool.noConfusion h
      | some n =>
        refine ev_is (ev_andV (a := true) (ev_is (ev_notN hf) rfl) fun _ => ev_int (ev_var hx) hf) ?_
        show V.bl (true && decide ((n : Int) ≤ (x : Int))) = V.bl (!decide (x < n))
        rw [Bool.true_and, ← decide_not]; congr 1; exact decide_eq_decide.mpr (by omega)
    refine pr_asg (F := H) (v := .bl (!(longerThan u r.life && longerThan v r.number))) (ev_is (ev_orV (one 1 "life" u r.life (by walk_at "ev") rfl) fun _ => one 2 "number" v r.number (by walk_at "ev") rfl) ?_) ?_ H (Ex.refl H)
    · rw [Bool.not_and]
    refine pr_when (b := !R7239g.Spec.usable r u v k) (et_is (et_or (by walk_at "ev") fun _ => by walk_at "ev") ?_) (fun hb => pr_ret ev_c fun H' e => q _ H' e ?_) (fun hb => ?_)
    · show ((!(longerThan u r.life && longerThan v r.number)) || decide ((r.grant : Int) ≤ (k : Int))) = _
      unfold R7239g.Spec.usable
      rw [Bool.not_and (longerThan u r.life && longerThan v r.number), ← decide_not]; congr 1; exact decide_eq_decide.mpr (by omega)
    · have h2 : R7239g.Spec.usable r u v k = false := by simpa using hb
      rw [h2]; show ValAt K H' V.non .null; unfold ValAt; rfl
    · have h2 : R7239g.Spec.usable r u v k = true := by simpa using hb
      have e1 : gv (R7239g.Spec.historyPlain (if R7239g.Spec.usable r u v k then some (R7239g.Spec.signIn r u v k) else none)) = .list (evs ([.ask 0] ++ pause u ++ [.scan 0 0] ++ R7239g.Spec.typed r v 0 ++ pause k ++ [.collect 0 0])) := by
        rw [h2, if_pos rfl]; rfl
      rw [e1] at q
      have l1 := pause_len u
      have l2 := typed_len r v 0
      have l3 := pause_len k
      refine pr_asgG (P := fun v' H => ValAt K H v' (.list (evs ([.ask 0] ++ pause u ++ [.scan 0 0] ++ R7239g.Spec.typed r v 0)))) ?_ fun v' H1 x1 hv => ?_
      · refine gv_catE (gv_catE (gv_catE (gv_ask ev_c) (gv_waited hr0 (by walk_at "ev") (by walk_at "ev")) ?_) (gv_scan ev_c ev_c) ?_) (gv_typed hr0 (by walk_at "ev") (by walk_at "ev") ev_c) ?_ <;> (simp only [List.length_append, List.length_singleton]; omega)
      · have hr1 := hr0.mono x1
        have ha1 := x1 _ _ ha
        refine pr_retG (P := fun v' H => ValAt K H v' (.list (evs ([.ask 0] ++ pause u ++ [.scan 0 0] ++ R7239g.Spec.typed r v 0 ++ pause k ++ [.collect 0 0])))) ?_ fun v' H' e hv' => q v' H' (x1.trans e) hv'
        refine gv_catE (gv_catE (gv_varE rfl hv) (gv_waited hr1 (by walk_at "ev") (by walk_at "ev")) ?_) (gv_coll ev_c ev_c) ?_ <;> (simp only [List.length_append, List.length_singleton]; omega)
end
end Sl
/-! ## SlNeed -/
namespace Sl
open PySem PySem.Spec PyProof.Rows L2 Evl
open R7239g.Spec (Err Res Units naturalOf numberIn numberOrNull boolIn fieldOf rangeText typeErrorWith rangeErrorWith andThen requireRules)
/-! ### what lets an error out -/
def Er (te : TE) (σ : L2.St) (F : Hp) : Prop := ∀ H1, Ex F H1 → ∀ Q : VK, te σ H1 Q
section
variable {K : PySem.W.Frag} {σ : L2.St} {F H : Hp} {te to : TE} {ta tr : TA} {g : TG} {tz : TS} {D : Ends} {v : V} {P : V → Hp → Prop} {R : List V → Hp → Prop} {sp : Sp} {dvs : List V} {E : XK}
theorem Er.mono (e : Ex F H) (h : Er te σ F) : Er te σ H := fun H1 a Q => h H1 (e.trans a) Q
theorem er_callA (ha : EgA ta σ F R) (hs : ∀ vs H1, Ex F H1 → R vs H1 → ∀ Q, sp (vs ++ dvs) H1 Q E) : Er (tCall sp dvs E ta) σ F := fun H1 e Q => ha H1 e _ fun vs H2 e2 r => hs vs H2 (e.trans e2) r Q
theorem er_methA {a C dx : Addr} {fs : List (Str × V)} {m : Str} (h : Ev to σ F (.ref a)) (ho : F a = some (.ins C dx fs)) (hl : fs.lookup m = none) (ha : EgA tr σ F R) (hs : ∀ vs H1, Ex F H1 → R vs H1 → ∀ Q, sp (.ref a :: (vs ++ dvs)) H1 Q E) :
    Er (tMeth C m sp dvs E to tr) σ F := fun H1 e Q => h H1 e _ fun H2 e2 => ⟨a, dx, fs, rfl, e2 _ _ (e _ _ ho), hl, ha H2 (e.trans e2) _ fun vs H3 e3 r => hs vs H3 ((e.trans e2).trans e3) r Q⟩
theorem pr_dropE (h : Er te σ F) : Pr (tSeq (tDrop te) tz) D σ F := fun H e => h H e _
theorem pr_asgE (h : Er te σ F) : Pr (tSeq (tAsg te g) tz) D σ F := fun H e => h H e _
theorem pr_retE (h : Er te σ F) : Pr (tRet te) D σ F := fun H e => h H e _
theorem pr_drop1E (h : Er te σ F) : Pr (tDrop te) D σ F := fun H e => h H e _
theorem pr_drop (h : Ev te σ F v) (k : Pr tz D σ F) : Pr (tSeq (tDrop te) tz) D σ F := fun H e => h H e _ fun H1 e1 => k H1 (e.trans e1)
theorem pr_dropG (h : Eg te σ F P) (k : ∀ v H1, Ex F H1 → P v H1 → Pr tz D σ H1) : Pr (tSeq (tDrop te) tz) D σ F := fun H e => h H e _ fun v H1 e1 p => k v H1 (e.trans e1) p H1 (Ex.refl H1)
theorem er_argA {tx : TA} (hr : ∀ H1, Ex F H1 → ∀ Q : List V → Hp → Prop, tx σ H1 Q) : Er (tCall sp dvs E tx) σ F := fun H1 e Q => hr H1 e _
theorem era_head (h : Er te σ F) : ∀ H1, Ex F H1 → ∀ Q : List V → Hp → Prop, (tCons te tr) σ H1 Q := fun H1 e Q => h H1 e _
theorem eg_new0 : EgV K (tNew0 (He.ga K "Nothing")) σ F .nothing := fun H1 e Q q x dx hx hd ne => q (.ref x) _ ((Ex.new hd).trans (Ex.new (by rw [upd_ne (Ne.symm ne)]; exact hx))) (by
  unfold ValAt
  exact ⟨x, dx, rfl, upd_same⟩)
end
/-! ### the errors of the document -/
def errMsg (e : Err) : List UInt8 := e.msg.map Rust.octetOf
/-- what an error's object holds -/
def ErrAt (H : Hp) (d : Addr) (e : Err) : Prop := H d = some (.xd [("message", .str (enc (errMsg e))), ("manner", .int (Rust.classOf e.cls))]) ∧ isPlain (errMsg e) = true
/-- what is let out: the error e -/
def Out (K : PySem.W.Frag) (H : Hp) (E : XK) (e : Err) : Prop := ∀ d H', Ex H H' → ErrAt H' d e → E (.ref (He.ga K "Refused")) (some d) H'
theorem Out.mono {K : PySem.W.Frag} {H H' : Hp} {E : XK} {e : Err} (h : Out K H E e) (x : Ex H H') : Out K H' E e := fun d H2 y z => h d H2 (x.trans y) z
def msgOk (m : Str) (e : Err) : Bool := decide (m = enc (errMsg e)) && isPlain (errMsg e)
theorem msgOk.at {m : Str} {e : Err} (h : msgOk m e = true) : m = enc (errMsg e) ∧ isPlain (errMsg e) = true := by
  obtain ⟨h1, h2⟩ := Bool.and_eq_true_iff.mp h
  exact ⟨of_decide_eq_true h1, h2⟩
/-- the class of an error made by need_kind, need_range -/
def spNeed (K : PySem.W.Frag) (k : Nat) : Sp := fun vs H Q E => ∃ (b : Bool) (m : Str), vs = [.bl b, .str m] ∧ (b = true → ∀ H', Ex H H' → Q .non H') ∧
  (b = false → ∀ d H', Ex H H' → H' d = some (.xd [("message", .str m), ("manner", .int k)]) → E (.ref (He.ga K "Refused")) (some d) H')
section
variable {K : PySem.W.Frag} {σ : L2.St} {F H : Hp} {ta tr : TA} {tb te : TE} {tz : TS} {D : Ends} {E : XK} {k : Nat} {b : Bool} {m : Str} {e : Err}
theorem pr_need (ha : EvA ta σ F [.bl b, .str m]) (hm : b = false → msgOk m e = true ∧ Rust.classOf e.cls = k) (h1 : b = true → Pr tz D σ F) (h0 : b = false → Out K F E e) : Pr (tSeq (tDrop (tCall (spNeed K k) [] E ta)) tz) D σ F := fun H x =>
  ha H x _ fun H1 x1 => ⟨b, m, rfl, fun hb H2 x2 => h1 hb H2 ((x.trans x1).trans x2), fun hb d H2 x2 hd => by
    obtain ⟨h2, h3⟩ := hm hb
    obtain ⟨h4, h5⟩ := msgOk.at h2
    subst h3
    rw [h4] at hd
    exact h0 hb d H2 ((x.trans x1).trans x2) ⟨hd, h5⟩⟩
end
def spRefI (K : PySem.W.Frag) : Sp := fun vs H Q _ => ∃ (a : Addr) (x y : V), vs = [.ref a, x, y] ∧ H a = some (exo a (He.ga K "Refused") none) ∧
  ∀ d H', H d = none → d ≠ a → H' a = some (exo a (He.ga K "Refused") (some d)) → H' d = some (exd d [("message", y), ("manner", x)]) → (∀ b o, H b = some o → b ≠ a → H' b = some o) → Q .non H'
local macro_rules
  | `(tactic| walk_at "ev") => `(tactic| first
    | exact ev_c
    | exact ev_var rfl
    | (refine' ev_fld ?k1 ?k2 ?k3 ?k4 ?k5; (case k1 => walk_at "ev"); (case k2 => assumption); (case k3 => exact Tx.cl (by assumption) rfl); (case k4 => exact Tx.na (by assumption) rfl); (case k5 => rfl))
    | (refine' ev_meth ?k1 ?k2 ?k3 ?k4 ?k5; (case k1 => walk_at "ev"); (case k2 => assumption); (case k3 => rfl); (case k4 => walk_at "ev"); (case k5 => walk_at "sp"))
    | (refine' ev_callG ?k1 ?k2; (case k1 => walk_at "ev"); (case k2 => walk_at "sp"))
    | (refine' ev_isN ?k1; (case k1 => walk_at "ev"))
    | (refine' ev_notN ?k1; (case k1 => walk_at "ev"))
    | (refine' ev_int ?k1 ?k2; (case k1 => walk_at "ev"); (case k2 => walk_at "ev"))
    | (refine' ev_sc ?k1 ?k2 ?k3; (case k1 => walk_at "ev"); (case k2 => walk_at "ev"); (case k3 => rfl))
    | (refine' ev_scn ?k1 ?k2 ?k3; (case k1 => walk_at "ev"); (case k2 => walk_at "ev"); (case k3 => rfl))
    | (refine' ev_notV ?k1; (case k1 => walk_at "ev"))
    | (refine' ev_andV ?k1 ?k2; (case k1 => walk_at "ev"); (case k2 => intro _; walk_at "ev"))
    | (refine' ev_orV ?k1 ?k2; (case k1 => walk_at "ev"); (case k2 => intro _; walk_at "ev"))
    | (refine' et_test ?k1; (case k1 => walk_at "ev"))
    | (refine' et_B ?k1; (case k1 => walk_at "ev"))
    | (refine' et_and ?k1 ?k2; (case k1 => walk_at "ev"); (case k2 => intro _; walk_at "ev"))
    | (refine' et_or ?k1 ?k2; (case k1 => walk_at "ev"); (case k2 => intro _; walk_at "ev"))
    | (refine' et_not ?k1; (case k1 => walk_at "ev"))
    | exact ea_nil
    | (refine' ea_cons ?k1 ?k2; (case k1 => walk_at "ev"); (case k2 => walk_at "ev")))
local macro_rules
  | `(tactic| walk_at "sp") => `(tactic| first | exact spR_go (by assumption) | exact spExc_go (by assumption))
section
variable {P : Program} {w : World} {K : PySem.W.Frag} {mg : Str → Option Value} {base : Heap}
theorem sc_Refused_init : FnScope ["self", "manner", "message"] ["self", "manner", "message"] d_Refused_init.scope := ⟨rfl, rfl, rfl, by decide +kernel, rfl, by decide +kernel, by decide +kernel⟩
theorem ok_Refused_init (T : Tx w K mg) : FnOk P w K mg base CX0 1 (He.ma K (He.ga K "Refused") "__init__") (fdOf K (He.ma K (He.ga K "Refused") "__init__")) ["self", "manner", "message"] (spRefI K) := by
  refine mkOk T.F_Refused_init ⟨rfl, rfl⟩ sc_Refused_init (fun vs H Q E h => ?_) (fun cdv A outer s H vs Q E hr h => ⟨_, (pss_cons (ps_rst (pv 0) (pv 1) rfl) (pss_one (ps_rst (pv 0) (pv 2) rfl))), ?_⟩)
  · (repeat (first | exact congrArg List.length h.1 | obtain ⟨_, h⟩ := h))
  · obtain ⟨a, x, y, rfl, ha, q⟩ := h
    refine ⟨x, rfl, _, rfl, a, _, rfl, T.refc, T.refm.mn, .inl ⟨ha, fun d hd ne => ?_⟩⟩
    refine ⟨y, rfl, _, rfl, a, _, rfl, T.refc, T.refm.ms, .inr ⟨d, _, upd_same, by rw [upd_ne ne]; exact upd_same, by show 1 ≤ 900; decide, ?_⟩⟩
    refine q d _ hd ne ?_ upd_same fun b o hb hba => ?_
    · rw [upd_ne (Ne.symm ne)]; exact upd_same
    · rw [upd_ne (ne_of_none hb hd), upd_ne hba, upd_ne (ne_of_none hb hd)]; exact hb
theorem sc_need_kind : FnScope ["is_so", "message"] ["is_so", "message"] d_need_kind.scope := ⟨rfl, rfl, rfl, by decide +kernel, rfl, by decide +kernel, by decide +kernel⟩
theorem ok_need_kind (T : Tx w K mg) : FnOk P w K mg base (L2N.CX P w) 4 (He.ga K "need_kind") (fdOf K (He.ga K "need_kind")) ["is_so", "message"] (spNeed K 1) := by
  refine mkOkX T.F_need_kind sc_need_kind (fun vs H Q E h => ?_) (fun cdv A outer s H vs Q E hr h => ⟨_, (pss_one (ps_if (pt_not (pt_val (pv 0))) (pss_one (L2N.ps_raise rfl (L2N.takes_of rfl rfl rfl rfl) (pmk_ref T.refc T.refm.ini T.refm.fn (ok_Refused_init T) (hr.mono (by decide)) T.B_Refused_init .nil pass0 rfl T.g_Refused (pa_cons (pe_gc rfl T.i_WRONG_KIND) (pa_cons (pv 1) pa_nil))))) pss_nil)), ?_⟩)
  · (repeat (first | exact congrArg List.length h.1 | obtain ⟨_, h⟩ := h))
  · obtain ⟨b, m, rfl, h1, h0⟩ := h
    cases b with
    | true => exact (et_not (et_test (ev_var (v := .bl true) rfl))) H (Ex.refl H) _ fun H1 x1 => iteF (h1 rfl H1 x1)
    | false =>
      refine (et_not (et_test (ev_var (v := .bl false) rfl))) H (Ex.refl H) _ fun H1 x1 => iteT ⟨_, rfl, by show 2 ≤ 1000; decide, fun a ha => ⟨a, _, _, rfl, upd_same, fun d H2 hd ne h2 h3 hk => ⟨rfl, d, _, h2, h3, ?_, h0 rfl d _ ?_ upd_same⟩⟩⟩
      · rw [upd_ne ne] at hd; exact hd
      · intro b o hb
        have h4 := x1 b o hb
        have h5 : b ≠ a := ne_of_none h4 ha
        have h6 : H1 d = none := by rw [upd_ne ne] at hd; exact hd
        rw [upd_ne (ne_of_none h4 h6), L2.del_ne h5]
        exact hk b o (by rw [upd_ne h5]; exact h4) h5
theorem sc_need_range : FnScope ["is_so", "message"] ["is_so", "message"] d_need_range.scope := ⟨rfl, rfl, rfl, by decide +kernel, rfl, by decide +kernel, by decide +kernel⟩
theorem ok_need_range (T : Tx w K mg) : FnOk P w K mg base (L2N.CX P w) 4 (He.ga K "need_range") (fdOf K (He.ga K "need_range")) ["is_so", "message"] (spNeed K 2) := by
  refine mkOkX T.F_need_range sc_need_range (fun vs H Q E h => ?_) (fun cdv A outer s H vs Q E hr h => ⟨_, (pss_one (ps_if (pt_not (pt_val (pv 0))) (pss_one (L2N.ps_raise rfl (L2N.takes_of rfl rfl rfl rfl) (pmk_ref T.refc T.refm.ini T.refm.fn (ok_Refused_init T) (hr.mono (by decide)) T.B_Refused_init .nil pass0 rfl T.g_Refused (pa_cons (pe_gc rfl T.i_OUT_OF_RANGE) (pa_cons (pv 1) pa_nil))))) pss_nil)), ?_⟩)
  · (repeat (first | exact congrArg List.length h.1 | obtain ⟨_, h⟩ := h))
  · obtain ⟨b, m, rfl, h1, h0⟩ := h
    cases b with
    | true => exact (et_not (et_test (ev_var (v := .bl true) rfl))) H (Ex.refl H) _ fun H1 x1 => iteF (h1 rfl H1 x1)
    | false =>
      refine (et_not (et_test (ev_var (v := .bl false) rfl))) H (Ex.refl H) _ fun H1 x1 => iteT ⟨_, rfl, by show 2 ≤ 1000; decide, fun a ha => ⟨a, _, _, rfl, upd_same, fun d H2 hd ne h2 h3 hk => ⟨rfl, d, _, h2, h3, ?_, h0 rfl d _ ?_ upd_same⟩⟩⟩
      · rw [upd_ne ne] at hd; exact hd
      · intro b o hb
        have h4 := x1 b o hb
        have h5 : b ≠ a := ne_of_none h4 ha
        have h6 : H1 d = none := by rw [upd_ne ne] at hd; exact hd
        rw [upd_ne (ne_of_none h4 h6), L2.del_ne h5]
        exact hk b o (by rw [upd_ne h5]; exact h4) h5
end
end Sl
/-! ## SlNeed2 -/
namespace Sl
open PySem PySem.Spec PyProof.Rows L2 Evl
open R7239g.Spec (Err Res Units naturalOf numberIn numberOrNull boolIn fieldOf rangeText typeErrorWith rangeErrorWith andThen requireRules)
/-! ### the kinds of values -/
def tyOf (K : PySem.W.Frag) : Val → Value
  | .nothing => .ref (He.ga K "Nothing")
  | .null => .type "NoneType"
  | .bool _ => .type "bool"
  | .int _ => .type "int"
  | .text _ => .type "str"
  | .list _ => .type "list"
  | .record _ => .ref (He.ga K "Record")
  | _ => .none
def isI : Val → Bool
  | .int _ => true
  | .bool _ => true
  | _ => false
def isB : Val → Bool
  | .bool _ => true
  | _ => false
def isS : Val → Bool
  | .text _ => true
  | _ => false
def isL : Val → Bool
  | .list _ => true
  | _ => false
def isR : Val → Bool
  | .record _ => true
  | _ => false
def isN : Val → Bool
  | .int _ => true
  | _ => false
section
variable {w : World} {K : PySem.W.Frag} {mg : Str → Option Value} {H : Hp} {v : V} {x : Val}
theorem val_ty (T : Tx w K mg) (h : ValAt K H v x) : TyX K H v (tyOf K x) := by
  cases x with
  | nothing =>
    unfold ValAt at h
    obtain ⟨a, dx, rfl, e⟩ := h
    exact T.tyR T.tups.2.2.2.2.2.1 T.c_Nothing e
  | null => unfold ValAt at h; subst h; exact .base .non
  | bool b => unfold ValAt at h; subst h; exact .base (.bl b)
  | int i => unfold ValAt at h; subst h; exact .base (.int i)
  | text u => unfold ValAt at h; subst h; exact .base (.str _)
  | list l =>
    unfold ValAt at h
    obtain ⟨a, vs, rfl, e, _⟩ := h
    exact .base (.lst e)
  | record l =>
    unfold ValAt at h
    obtain ⟨a, dx, m, ts, rfl, e, _⟩ := h
    exact T.tyR T.tups.2.2.2.2.2.2 T.c_Record e
  | big i => unfold ValAt at h; exact h.elim
  | octets u => unfold ValAt at h; exact h.elim
  | wide u => unfold ValAt at h; exact h.elim
theorem iso_kind (T : Tx w K mg) {x : String} {t : String} (hx : x ∈ ["Nothing", "Record"]) (ht : t ∈ kinds) : PySem.W.kitOne K (.ref (He.ga K x)) (.type t) = some false :=
  of_decide_eq_true (List.all_eq_true.mp (List.all_eq_true.mp T.isos.1 x hx) t ht)
theorem iso_rec (T : Tx w K mg) {t : String} (ht : t ∈ ["int", "bool", "str", "list", "NoneType"]) : PySem.W.kitOne K (.type t) (.ref (He.ga K "Record")) = some false :=
  of_decide_eq_true (List.all_eq_true.mp T.isos.2.1 t ht)
theorem kit_int (T : Tx w K mg) (h : ValAt K H v x) : PySem.W.kitOne K (tyOf K x) (.type "int") = some (isI x) := by
  cases x with
  | nothing => exact iso_kind T (by decide) (by decide)
  | record l => exact iso_kind T (by decide) (by decide)
  | big i => unfold ValAt at h; exact h.elim
  | octets u => unfold ValAt at h; exact h.elim
  | wide u => unfold ValAt at h; exact h.elim
  | _ => first | rfl | decide +kernel | kernel_rfl
theorem kit_bool (T : Tx w K mg) (h : ValAt K H v x) : PySem.W.kitOne K (tyOf K x) (.type "bool") = some (isB x) := by
  cases x with
  | nothing => exact iso_kind T (by decide) (by decide)
  | record l => exact iso_kind T (by decide) (by decide)
  | big i => unfold ValAt at h; exact h.elim
  | octets u => unfold ValAt at h; exact h.elim
  | wide u => unfold ValAt at h; exact h.elim
  | _ => first | rfl | decide +kernel | kernel_rfl
theorem kit_str (T : Tx w K mg) (h : ValAt K H v x) : PySem.W.kitOne K (tyOf K x) (.type "str") = some (isS x) := by
  cases x with
  | nothing => exact iso_kind T (by decide) (by decide)
  | record l => exact iso_kind T (by decide) (by decide)
  | big i => unfold ValAt at h; exact h.elim
  | octets u => unfold ValAt at h; exact h.elim
  | wide u => unfold ValAt at h; exact h.elim
  | _ => first | rfl | decide +kernel | kernel_rfl
theorem kit_list (T : Tx w K mg) (h : ValAt K H v x) : PySem.W.kitOne K (tyOf K x) (.type "list") = some (isL x) := by
  cases x with
  | nothing => exact iso_kind T (by decide) (by decide)
  | record l => exact iso_kind T (by decide) (by decide)
  | big i => unfold ValAt at h; exact h.elim
  | octets u => unfold ValAt at h; exact h.elim
  | wide u => unfold ValAt at h; exact h.elim
  | _ => first | rfl | decide +kernel | kernel_rfl
theorem kit_rec (T : Tx w K mg) (h : ValAt K H v x) : PySem.W.kitOne K (tyOf K x) (.ref (He.ga K "Record")) = some (isR x) := by
  cases x with
  | nothing => exact of_decide_eq_true T.isos.2.2.1
  | record l => exact of_decide_eq_true T.isos.2.2.2
  | big i => unfold ValAt at h; exact h.elim
  | octets u => unfold ValAt at h; exact h.elim
  | wide u => unfold ValAt at h; exact h.elim
  | null => exact iso_rec T (by decide)
  | bool b => exact iso_rec T (by decide)
  | int i => exact iso_rec T (by decide)
  | text u => exact iso_rec T (by decide)
  | list l => exact iso_rec T (by decide)
variable {σ : L2.St} {F : Hp} {te : TE}
theorem eg_isi {c : V} {u : Value} {b : Bool} (h : EgV K te σ F x) (T : Tx w K mg) (hc : ClsV c u) (hk : ∀ v H, ValAt K H v x → PySem.W.kitOne K (tyOf K x) u = some b) : Ev (tCB (rIsi K) (tCons te (tCons (tC c) tNil))) σ F (.bl b) := fun H1 e Q q =>
  h H1 e _ fun v H2 e2 hv => ⟨v, c, _, u, b, rfl, hc, val_ty T hv, hk v H2 hv, q H2 e2⟩
theorem ev_isI (h : EgV K te σ F x) (T : Tx w K mg) : Ev (tCB (rIsi K) (tCons te (tCons (tC (.ty "int")) tNil))) σ F (.bl (isI x)) := eg_isi h T (.ty "int") fun _ _ => kit_int T
theorem ev_isB (h : EgV K te σ F x) (T : Tx w K mg) : Ev (tCB (rIsi K) (tCons te (tCons (tC (.ty "bool")) tNil))) σ F (.bl (isB x)) := eg_isi h T (.ty "bool") fun _ _ => kit_bool T
theorem ev_isS (h : EgV K te σ F x) (T : Tx w K mg) : Ev (tCB (rIsi K) (tCons te (tCons (tC (.ty "str")) tNil))) σ F (.bl (isS x)) := eg_isi h T (.ty "str") fun _ _ => kit_str T
theorem ev_isL (h : EgV K te σ F x) (T : Tx w K mg) : Ev (tCB (rIsi K) (tCons te (tCons (tC (.ty "list")) tNil))) σ F (.bl (isL x)) := eg_isi h T (.ty "list") fun _ _ => kit_list T
theorem ev_isR (h : EgV K te σ F x) (T : Tx w K mg) : Ev (tCB (rIsi K) (tCons te (tCons (tC (.ref (He.ga K "Record"))) tNil))) σ F (.bl (isR x)) := eg_isi h T (.own _) fun _ _ => kit_rec T
end
/-! ### is_number, is_within -/
def spIsN (K : PySem.W.Frag) : Sp := fun vs H Q _ => ∃ (v : V) (x : Val), vs = [v] ∧ ValAt K H v x ∧ ∀ H', Ex H H' → Q (.bl (isN x)) H'
def withinV (x : Val) (lo hi : Int) : Bool := match x with
  | .int i => decide (lo ≤ i) && decide (i ≤ hi)
  | _ => false
def spWith (K : PySem.W.Frag) : Sp := fun vs H Q _ => ∃ (v : V) (x : Val) (lo hi : Int), vs = [v, .int lo, .int hi] ∧ ValAt K H v x ∧ ∀ H', Ex H H' → Q (.bl (withinV x lo hi)) H'
theorem ev_chain {σ : L2.St} {F : Hp} {ta tb tc : TE} {i j k : Int} (ha : Ev ta σ F (.int i)) (hb : Ev tb σ F (.int j)) (hc : Ev tc σ F (.int k)) :
    Ev (tChain (rI0 fun i j => .bl (decide (i ≤ j))) (rI0 fun i j => .bl (decide (i ≤ j))) ta tb tc) σ F (.bl (decide (i ≤ j) && decide (j ≤ k))) := fun H1 e Q q => ha H1 e _ fun H2 e2 => hb H2 (e.trans e2) _ fun H3 e3 => ⟨i, j, rfl, rfl, decide (i ≤ j), rfl, by
  cases h : decide (i ≤ j) with
  | true => exact iteT (hc H3 ((e.trans e2).trans e3) _ fun H4 e4 => ⟨j, k, rfl, rfl, q_of q h ((e2.trans e3).trans e4)⟩)
  | false => exact iteF (q_of2 q h (e2.trans e3))⟩
where
  q_of {i j k : Int} {H1 H4 : Hp} {Q : VK} (q : ∀ H2, Ex H1 H2 → Q (.bl (decide (i ≤ j) && decide (j ≤ k))) H2) (h : decide (i ≤ j) = true) (e : Ex H1 H4) : Q (.bl (decide (j ≤ k))) H4 := by
    have z := q H4 e
    rwa [h, Bool.true_and] at z
  q_of2 {i j k : Int} {H1 H4 : Hp} {Q : VK} (q : ∀ H2, Ex H1 H2 → Q (.bl (decide (i ≤ j) && decide (j ≤ k))) H2) (h : decide (i ≤ j) = false) (e : Ex H1 H4) : Q (.bl false) H4 := by
    have z := q H4 e
    rwa [h, Bool.false_and] at z
section
variable {K : PySem.W.Frag} {σ : L2.St} {F : Hp} {te tl th : TE} {x : Val} {E : XK} {lo hi : Int}
theorem ev_isNum (h : EgV K te σ F x) : Ev (tCall (spIsN K) [] E (tCons te tNil)) σ F (.bl (isN x)) := fun H1 e Q q => h H1 e _ fun v H2 e2 hv => ⟨v, x, rfl, hv, fun H3 e3 => q H3 (e2.trans e3)⟩
theorem ev_isWith (h : EgV K te σ F x) (hl : Ev tl σ F (.int lo)) (hh : Ev th σ F (.int hi)) : Ev (tCall (spWith K) [] E (tCons te (tCons tl (tCons th tNil)))) σ F (.bl (withinV x lo hi)) := fun H1 e Q q =>
  h H1 e _ fun v H2 e2 hv => hl H2 (e.trans e2) _ fun H3 e3 => hh H3 ((e.trans e2).trans e3) _ fun H4 e4 => ⟨v, x, lo, hi, rfl, hv.mono (e3.trans e4), fun H5 e5 => q H5 (((e2.trans e3).trans e4).trans e5)⟩
end
local macro_rules
  | `(tactic| walk_at "ev") => `(tactic| first
    | exact ev_c
    | exact ev_var rfl
    | (refine' ev_fld ?k1 ?k2 ?k3 ?k4 ?k5; (case k1 => walk_at "ev"); (case k2 => assumption); (case k3 => exact Tx.cl (by assumption) rfl); (case k4 => exact Tx.na (by assumption) rfl); (case k5 => rfl))
    | (refine' ev_meth ?k1 ?k2 ?k3 ?k4 ?k5; (case k1 => walk_at "ev"); (case k2 => assumption); (case k3 => rfl); (case k4 => walk_at "ev"); (case k5 => walk_at "sp"))
    | (refine' ev_callG ?k1 ?k2; (case k1 => walk_at "ev"); (case k2 => walk_at "sp"))
    | (refine' ev_isN ?k1; (case k1 => walk_at "ev"))
    | (refine' ev_notN ?k1; (case k1 => walk_at "ev"))
    | (refine' ev_int ?k1 ?k2; (case k1 => walk_at "ev"); (case k2 => walk_at "ev"))
    | (refine' ev_sc ?k1 ?k2 ?k3; (case k1 => walk_at "ev"); (case k2 => walk_at "ev"); (case k3 => rfl))
    | (refine' ev_scn ?k1 ?k2 ?k3; (case k1 => walk_at "ev"); (case k2 => walk_at "ev"); (case k3 => rfl))
    | (refine' ev_notV ?k1; (case k1 => walk_at "ev"))
    | (refine' ev_andV ?k1 ?k2; (case k1 => walk_at "ev"); (case k2 => intro _; walk_at "ev"))
    | (refine' ev_orV ?k1 ?k2; (case k1 => walk_at "ev"); (case k2 => intro _; walk_at "ev"))
    | (refine' et_test ?k1; (case k1 => walk_at "ev"))
    | (refine' et_B ?k1; (case k1 => walk_at "ev"))
    | (refine' et_and ?k1 ?k2; (case k1 => walk_at "ev"); (case k2 => intro _; walk_at "ev"))
    | (refine' et_or ?k1 ?k2; (case k1 => walk_at "ev"); (case k2 => intro _; walk_at "ev"))
    | (refine' et_not ?k1; (case k1 => walk_at "ev"))
    | exact ea_nil
    | (refine' ea_cons ?k1 ?k2; (case k1 => walk_at "ev"); (case k2 => walk_at "ev")))
local macro_rules
  | `(tactic| walk_at "sp") => `(tactic| first | exact spR_go (by assumption) | exact spExc_go (by assumption))
section
variable {P : Program} {w : World} {K : PySem.W.Frag} {mg : Str → Option Value} {base : Heap}
theorem sc_is_number : FnScope ["value"] ["value"] d_is_number.scope := ⟨rfl, rfl, rfl, by decide +kernel, rfl, by decide +kernel, by decide +kernel⟩
theorem ok_is_number (T : Tx w K mg) : FnOk P w K mg base CX0 1 (He.ga K "is_number") (fdOf K (He.ga K "is_number")) ["value"] (spIsN K) := by
  refine mkOk T.F_is_number ⟨rfl, rfl⟩ sc_is_number (fun vs H Q E h => ?_) (fun cdv A outer s H vs Q E hr h => ⟨_, (pss_one (ps_ret (pe_and (pe_callB call_isi (by rfl) T.f_isinstance (by decide +kernel) (pa_cons (pv 0) (pa_cons (pe_bltn (v := .ty "int") (u := .type "int") (by rfl) T.f_int (by decide +kernel) rfl) pa_nil))) (pe_one (pe_not (pe_callB call_isi (by rfl) T.f_isinstance (by decide +kernel) (pa_cons (pv 0) (pa_cons (pe_bltn (v := .ty "bool") (u := .type "bool") (by rfl) T.f_bool (by decide +kernel) rfl) pa_nil)))))))), ?_⟩)
  · (repeat (first | exact congrArg List.length h.1 | obtain ⟨_, h⟩ := h))
  · obtain ⟨v, x, rfl, hv, q⟩ := h
    have hx : EgV K (tVar 0) [some v] H x := gv_varE rfl hv
    refine pr_ret (F := H) (ev_is (ev_andV (ev_isI hx T) fun _ => ev_notV (ev_isB hx T)) ?_) q H (Ex.refl H)
    cases x <;> rfl
theorem sc_is_within : FnScope ["value", "low", "high"] ["value", "low", "high"] d_is_within.scope := ⟨rfl, rfl, rfl, by decide +kernel, rfl, by decide +kernel, by decide +kernel⟩
theorem ok_is_within (T : Tx w K mg) : FnOk P w K mg base CX0 2 (He.ga K "is_within") (fdOf K (He.ga K "is_within")) ["value", "low", "high"] (spWith K) := by
  refine mkOk T.F_is_within ⟨rfl, rfl⟩ sc_is_within (fun vs H Q E h => ?_) (fun cdv A outer s H vs Q E hr h => ⟨_, (pss_one (ps_ret (pe_and (pe_call (ok_is_number T) (hr.mono (by decide)) rfl T.g_is_number T.kp_is_number T.B_is_number .nil pass0 (pa_cons (pv 0) pa_nil)) (pe_one (pe_chain op_le op_le (pv 1) (pv 0) (pv 2)))))), ?_⟩)
  · (repeat (first | exact congrArg List.length h.1 | obtain ⟨_, h⟩ := h))
  · obtain ⟨v, x, lo, hi, rfl, hv, q⟩ := h
    have hx : EgV K (tVar 0) [some v, some (.int lo), some (.int hi)] H x := gv_varE rfl hv
    refine pr_ret (F := H) ?_ q H (Ex.refl H)
    cases x with
    | int i =>
      unfold ValAt at hv
      subst hv
      exact ev_is (ev_andV (ev_isNum hx) fun _ => ev_chain (by walk_at "ev") (by walk_at "ev") (by walk_at "ev")) (by show V.bl (true && _) = _; rw [Bool.true_and]; rfl)
    | _ => exact ev_andV (b := false) (ev_isNum hx) fun h => Bool.noConfusion h
end
end Sl
/-! ## SlNeed3 -/
namespace Sl
open PySem PySem.Spec PyProof.Rows L2 Evl
open R7239g.Spec (Err Res Units naturalOf numberIn numberOrNull boolIn fieldOf rangeText typeErrorWith rangeErrorWith andThen requireRules)
/-! ### a record's members -/
def memb (l : List (RWire.Text × Val)) (n : List UInt8) : Val := ((l.find? fun e => e.1 == n).map (·.2)).getD .nothing
theorem memb_hit {e : RWire.Text × Val} {r : List (RWire.Text × Val)} {n : List UInt8} (h : e.1 = n) : memb (e :: r) n = e.2 := by
  unfold memb
  rw [List.find?_cons_of_pos (by rw [h]; exact beq_self_eq_true n)]
  rfl
theorem memb_miss {e : RWire.Text × Val} {r : List (RWire.Text × Val)} {n : List UInt8} (h : e.1 ≠ n) : memb (e :: r) n = memb r n := by
  unfold memb
  rw [List.find?_cons_of_neg (by simpa using h)]
theorem EntsAt.get {K : PySem.W.Frag} {H : Hp} : ∀ {ts : List V} {l : List (RWire.Text × Val)} {i : Nat} {t : V}, EntsAt K H ts l → ts[i]? = some t → ∃ e p v r, l.drop i = e :: r ∧ l.drop (i + 1) = r ∧ t = .ref p ∧ H p = some (.tup [.str (enc e.1), v]) ∧ ValAt K H v e.2
  | ts, [], i, t, h, hi => by
    obtain rfl : ts = [] := h
    cases hi
  | ts, e :: r, i, t, h, hi => by
    obtain ⟨t', us, p, v, rfl, ht, h1, h2, h3⟩ := h
    cases i with
    | zero =>
      obtain rfl : t' = t := by injection hi
      exact ⟨e, p, v, r, rfl, rfl, ht, h1, h2⟩
    | succ i =>
      have z := EntsAt.get (ts := us) (l := r) (i := i) h3 (by simpa using hi)
      exact z
def spMem (K : PySem.W.Frag) : Sp := fun vs H Q _ => ∃ (r : Addr) (l : List (RWire.Text × Val)) (n : List UInt8), vs = [.ref r, .str (enc n)] ∧ ValAt K H (.ref r) (.record l) ∧ ∀ v H', Ex H H' → ValAt K H' v (memb l n) → Q v H'
theorem ev_strs {σ : L2.St} {F : Hp} {ta tb : TE} {i j : Str} (ha : Ev ta σ F (.str i)) (hb : Ev tb σ F (.str j)) : EvT (tB (tOp rEq ta tb)) σ F (decide (i = j)) := et_is (et_B (ev_sc ha hb rfl)) (decide_eq_decide.mpr ⟨fun h => by injection h, fun h => by rw [h]⟩)
theorem eg_member {K : PySem.W.Frag} {σ : L2.St} {F : Hp} {to te : TE} {E : XK} {v : V} {l : List (RWire.Text × Val)} {n : List UInt8} (ho : Ev to σ F v) (hv : ValAt K F v (.record l)) (hn : Ev te σ F (.str (enc n))) : EgV K (tMeth (He.ga K "Record") "member" (spMem K) [] E to (tCons te tNil)) σ F (memb l n) := by
  have hv2 := hv
  unfold ValAt at hv2
  obtain ⟨a, dx, m, ts, rfl, e, _, _⟩ := hv2
  exact eg_meth ho e rfl (ea_cons hn ea_nil) fun H1 x Q E q => ⟨a, l, n, rfl, hv.mono x, q⟩
/-! ### numbers within limits -/
theorem natOf_int (i : Int) : naturalOf (.num (RShim.F64.ofInt i)) = if 0 ≤ i ∧ i ≤ 1000000 then some i.toNat else none := rfl
def natV (x : Val) : Nat := match x with
  | .int i => i.toNat
  | _ => 0
theorem natOf_val {x : Val} (h : isN x = false) : naturalOf (Rust.taken x) = none := by
  cases x <;> first | rfl | cases h
theorem numIn_yes {s : String} {lo hi : Nat} {x : Val} (hh : hi ≤ 1000000) (h : withinV x lo hi = true) : numberIn s lo hi (Rust.taken x) = .ok (natV x) ∧ x = .int (natV x : Int) := by
  cases x with
  | int i =>
    have h2 : (decide ((lo : Int) ≤ i) && decide (i ≤ (hi : Int))) = true := h
    simp only [Bool.and_eq_true, decide_eq_true_eq] at h2
    have e1 : naturalOf (Rust.taken (.int i)) = some i.toNat := by
      show naturalOf (.num (RShim.F64.ofInt i)) = _
      rw [natOf_int, if_pos (by omega)]
    refine ⟨?_, ?_⟩
    · unfold numberIn; rw [e1]; show (if lo ≤ i.toNat ∧ i.toNat ≤ hi then _ else _) = _; rw [if_pos (by omega)]; rfl
    · show RWire.Value.int i = .int ((i.toNat : Nat) : Int); congr 1; omega
  | _ => cases h
theorem numIn_no {s : String} {lo hi : Nat} {x : Val} (hh : hi ≤ 1000000) (h : withinV x lo hi = false) : numberIn s lo hi (Rust.taken x) = .error (rangeText s lo hi "") := by
  cases hx : naturalOf (Rust.taken x) with
  | none => unfold numberIn; rw [hx]
  | some n =>
    cases x with
    | int i =>
      have e1 : (if 0 ≤ i ∧ i ≤ 1000000 then some i.toNat else none) = some n := hx
      have h2 : (decide ((lo : Int) ≤ i) && decide (i ≤ (hi : Int))) = false := h
      unfold numberIn; rw [hx]
      show (if lo ≤ n ∧ n ≤ hi then _ else _) = _
      rw [if_neg]
      intro hc
      split at e1
      · injection e1 with e1
        have h3 : ¬ ((lo : Int) ≤ i ∧ i ≤ (hi : Int)) := by simpa using h2
        omega
      · cases e1
    | _ => exact absurd (natOf_val rfl) (by rw [hx]; simp)
/-- the text of the refusal, as it is put together, its pieces' lengths and what it is -/
def okW (s : String) (lo hi : Nat) (rest : String) : Bool :=
  let a : Str := Str.ofString s
  let b : Str := a ++ Str.ofString " must be an integer from "
  let c : Str := b ++ Str.ofString (toString (lo : Int))
  let d : Str := c ++ Str.ofString " to "
  let e : Str := d ++ Str.ofString (toString (hi : Int))
  let f : Str := e ++ Str.ofString rest
  Nat.ble f.length 100000 && (Nat.ble (a.length + (Str.ofString " must be an integer from ").length) 100000 && (Nat.ble (b.length + (Str.ofString (toString (lo : Int))).length) 100000 && (Nat.ble (c.length + (Str.ofString " to ").length) 100000 && (Nat.ble (d.length + (Str.ofString (toString (hi : Int))).length) 100000 &&
  (Nat.blt (lo : Int).natAbs.log2 1920 && (Nat.blt (hi : Int).natAbs.log2 1920 && msgOk (if rest = "" then e else f) (rangeText s lo hi rest)))))))
def spNW (K : PySem.W.Frag) : Sp := fun vs H Q E => ∃ (v : V) (x : Val) (s : String) (lo hi : Nat), vs = [v, .str (Str.ofString s), .int lo, .int hi] ∧ ValAt K H v x ∧ hi ≤ 1000000 ∧ okW s lo hi "" = true ∧
  (∀ n, numberIn s lo hi (Rust.taken x) = .ok n → v = .int n → ∀ H', Ex H H' → Q v H') ∧ ∀ e, numberIn s lo hi (Rust.taken x) = .error e → Out K H E e
theorem ev_adds {σ : L2.St} {F : Hp} {ta tb : TE} {i j : Str} (ha : Ev ta σ F (.str i)) (hb : Ev tb σ F (.str j)) (hz : Nat.ble (i.length + j.length) 100000 = true) : Ev (tOp (fun x y H Q => ∃ i j, x = .str i ∧ y = .str j ∧ i.length + j.length ≤ sizeLine ∧ Q (.str (i ++ j)) H) ta tb) σ F (.str (i ++ j)) :=
  ev_op ha hb fun H1 _ _ q => ⟨i, j, rfl, rfl, sz_of (Nat.le_of_ble_eq_true hz), q H1 (Ex.refl H1)⟩
theorem ev_strI {σ : L2.St} {F : Hp} {ta : TE} {i : Int} (ha : Ev ta σ F (.int i)) (hz : Nat.blt i.natAbs.log2 1920 = true) : Ev (tCB (fun xs H Q => ∃ i, xs = [.int i] ∧ i.natAbs.log2 < 1920 ∧ Q (.str (toString i)) H) (tCons ta tNil)) σ F (.str (Str.ofString (toString i))) := fun H1 e Q q =>
  ha H1 e _ fun H2 e2 => ⟨i, rfl, Nat.lt_of_lt_of_le (Nat.lt_succ_self _) (Nat.le_of_ble_eq_true hz), q H2 e2⟩
section
variable {K : PySem.W.Frag} {σ : L2.St} {F : Hp} {te ts tl th : TE} {x : Val} {E : XK} {s : String} {lo hi : Nat}
theorem nw_ok {n : Nat} (h : EgV K te σ F x) (hs : Ev ts σ F (.str (Str.ofString s))) (hl : Ev tl σ F (.int lo)) (hh : Ev th σ F (.int hi)) (hz : hi ≤ 1000000) (ho : okW s lo hi "" = true) (hn : numberIn s lo hi (Rust.taken x) = .ok n) :
    Ev (tCall (spNW K) [] E (tCons te (tCons ts (tCons tl (tCons th tNil))))) σ F (.int n) := fun H1 e Q q =>
  h H1 e _ fun v H2 e2 hv => hs H2 (e.trans e2) _ fun H3 e3 => hl H3 ((e.trans e2).trans e3) _ fun H4 e4 => hh H4 (((e.trans e2).trans e3).trans e4) _ fun H5 e5 => ⟨v, x, s, lo, hi, rfl, hv.mono ((e3.trans e4).trans e5), hz, ho,
    fun m hm hv2 H6 e6 => by
      rw [hn] at hm
      injection hm with hm
      subst hm
      subst hv2
      exact q H6 ((((e2.trans e3).trans e4).trans e5).trans e6), fun e' he => by rw [hn] at he; cases he⟩
theorem nw_er {er : Err} (h : EgV K te σ F x) (hs : Ev ts σ F (.str (Str.ofString s))) (hl : Ev tl σ F (.int lo)) (hh : Ev th σ F (.int hi)) (hz : hi ≤ 1000000) (ho : okW s lo hi "" = true) (hn : numberIn s lo hi (Rust.taken x) = .error er) (hE : Out K F E er) :
    Er (tCall (spNW K) [] E (tCons te (tCons ts (tCons tl (tCons th tNil))))) σ F := fun H1 e Q =>
  h H1 e _ fun v H2 e2 hv => hs H2 (e.trans e2) _ fun H3 e3 => hl H3 ((e.trans e2).trans e3) _ fun H4 e4 => hh H4 (((e.trans e2).trans e3).trans e4) _ fun H5 e5 => ⟨v, x, s, lo, hi, rfl, hv.mono ((e3.trans e4).trans e5), hz, ho,
    fun m hm => (by rw [hn] at hm; cases hm), fun e' he => by
      rw [hn] at he
      injection he with he
      subst he
      exact hE.mono ((((e.trans e2).trans e3).trans e4).trans e5)⟩
end
local macro_rules
  | `(tactic| walk_at "ev") => `(tactic| first
    | exact ev_c
    | exact ev_var rfl
    | (refine' ev_fld ?k1 ?k2 ?k3 ?k4 ?k5; (case k1 => walk_at "ev"); (case k2 => assumption); (case k3 => exact Tx.cl (by assumption) rfl); (case k4 => exact Tx.na (by assumption) rfl); (case k5 => rfl))
    | (refine' ev_meth ?k1 ?k2 ?k3 ?k4 ?k5; (case k1 => walk_at "ev"); (case k2 => assumption); (case k3 => rfl); (case k4 => walk_at "ev"); (case k5 => walk_at "sp"))
    | (refine' ev_callG ?k1 ?k2; (case k1 => walk_at "ev"); (case k2 => walk_at "sp"))
    | (refine' ev_isN ?k1; (case k1 => walk_at "ev"))
    | (refine' ev_notN ?k1; (case k1 => walk_at "ev"))
    | (refine' ev_int ?k1 ?k2; (case k1 => walk_at "ev"); (case k2 => walk_at "ev"))
    | (refine' ev_sc ?k1 ?k2 ?k3; (case k1 => walk_at "ev"); (case k2 => walk_at "ev"); (case k3 => rfl))
    | (refine' ev_scn ?k1 ?k2 ?k3; (case k1 => walk_at "ev"); (case k2 => walk_at "ev"); (case k3 => rfl))
    | (refine' ev_notV ?k1; (case k1 => walk_at "ev"))
    | (refine' ev_andV ?k1 ?k2; (case k1 => walk_at "ev"); (case k2 => intro _; walk_at "ev"))
    | (refine' ev_orV ?k1 ?k2; (case k1 => walk_at "ev"); (case k2 => intro _; walk_at "ev"))
    | (refine' et_test ?k1; (case k1 => walk_at "ev"))
    | (refine' et_B ?k1; (case k1 => walk_at "ev"))
    | (refine' et_and ?k1 ?k2; (case k1 => walk_at "ev"); (case k2 => intro _; walk_at "ev"))
    | (refine' et_or ?k1 ?k2; (case k1 => walk_at "ev"); (case k2 => intro _; walk_at "ev"))
    | (refine' et_not ?k1; (case k1 => walk_at "ev"))
    | exact ea_nil
    | (refine' ea_cons ?k1 ?k2; (case k1 => walk_at "ev"); (case k2 => walk_at "ev")))
local macro_rules
  | `(tactic| walk_at "sp") => `(tactic| first | exact spR_go (by assumption) | exact spExc_go (by assumption))
section
variable {P : Program} {w : World} {K : PySem.W.Frag} {mg : Str → Option Value} {base : Heap}
theorem sc_Record_member : FnScope ["self", "name", "one", "value"] ["self", "name"] d_Record_member.scope := ⟨rfl, rfl, rfl, by decide +kernel, rfl, by decide +kernel, by decide +kernel⟩
theorem ok_Record_member (T : Tx w K mg) : FnOk P w K mg base CX0 2 (He.ma K (He.ga K "Record") "member") (fdOf K (He.ma K (He.ga K "Record") "member")) ["self", "name"] (spMem K) := by
  refine mkOk T.F_Record_member ⟨rfl, rfl⟩ sc_Record_member (fun vs H Q E h => ?_) (fun cdv A outer s H vs Q E hr h => ⟨_, (pss_cons (ps_for PassesOwn.never rfl (pi_list (pe_fld (pv 0) rfl)) (pg_tup rfl (pgs_cons (pg_name (i := 2) sc_Record_member.nd rfl (Or.inl rfl)) (pgs_cons (pg_name (i := 3) sc_Record_member.nd rfl (Or.inl rfl)) pgs_nil))) (pss_one (ps_if (pt_cmpR op_eq (pv 2) (pv 1) (nomark _)) (pss_one (ps_ret (pv 3))) pss_nil))) (pss_one (ps_ret (pe_new0 T.noth.1 T.noth.2 (Tx.kp_Nothing T) rfl T.g_Nothing)))), ?_⟩)
  · (repeat (first | exact congrArg List.length h.1 | obtain ⟨_, h⟩ := h))
  · obtain ⟨r, l, n, rfl, hv, q⟩ := h
    have hv2 := hv
    unfold ValAt at hv2
    obtain ⟨a, dx, m, ts, hra, ha, hm, he⟩ := hv2
    obtain rfl : r = a := by injection hra
    refine q_forL (H := H) (σ := [some (.ref r), some (.str (enc n)), none, none]) (a := m) (xs := ts) (by walk_at "ev") (sq_of hm) (fun i σ' H' => Ex H H' ∧ (∃ x y, σ' = [some (.ref r), some (.str (enc n)), x, y]) ∧ memb l n = memb (l.drop i) n) (fun H1 x1 => ⟨x1, ⟨_, _, rfl⟩, rfl⟩) (fun i σ' H' _ p => ex_l p.1 (sq_of hm)) (fun i x σ' H' hi p => ?_) (fun σ' H' p => ?_)
    · obtain ⟨x1, ⟨y, z, rfl⟩, hmb⟩ := p
      obtain ⟨e, p, v, rr, h1, h2, rfl, h3, h4⟩ := (he.mono x1).get hi
      refine ⟨p, _, rfl, st_of h3, rfl, _, _, rfl, _, _, rfl, rfl, ?_⟩
      refine s_when (ev_strs (i := enc e.1) (j := enc n) (ev_var rfl) (ev_var rfl)) (fun hb H1 x2 => ?_) fun hb H1 x2 => ?_
      · have h5 := enc_inj (of_decide_eq_true hb)
        rw [h1, memb_hit h5] at hmb
        exact ev_var (v := v) rfl H1 (Ex.refl H1) _ fun H2 x3 => q v H2 ((x1.trans x2).trans x3) (by rw [hmb]; exact (h4.mono x2).mono x3)
      · have h5 : e.1 ≠ n := fun z => absurd (by rw [z]) (of_decide_eq_false hb)
        rw [h1, memb_miss h5] at hmb
        exact ⟨x1.trans x2, ⟨_, _, rfl⟩, by rw [hmb, h2]⟩
    · obtain ⟨x1, ⟨y, z, rfl⟩, hmb⟩ := p
      have h1 : memb l n = .nothing := by rw [hmb, he.len, List.drop_length]; rfl
      rw [h1] at q
      exact pr_retG (F := H') eg_new0 (fun v H2 x2 hv => q v H2 (x1.trans x2) hv) H' (Ex.refl H')
theorem sc_need_within : FnScope ["value", "name", "low", "high"] ["value", "name", "low", "high"] d_need_within.scope := ⟨rfl, rfl, rfl, by decide +kernel, rfl, by decide +kernel, by decide +kernel⟩
theorem ok_need_within (T : Tx w K mg) : FnOk P w K mg base (L2N.CX P w) 5 (He.ga K "need_within") (fdOf K (He.ga K "need_within")) ["value", "name", "low", "high"] (spNW K) := by
  refine mkOkX T.F_need_within sc_need_within (fun vs H Q E h => ?_) (fun cdv A outer s H vs Q E hr h => ⟨_, (pss_cons (ps_expr (pe_call (ok_need_range T) (hr.mono (by decide)) rfl T.g_need_range T.kp_need_range T.B_need_range .nil (L2N.passes_call (L2N.takes_of rfl rfl rfl rfl) (fun _ _ _ _ h => h)) (pa_cons (pe_call (ok_is_within T) (hr.mono (by decide)) rfl T.g_is_within T.kp_is_within T.B_is_within .nil pass0 (pa_cons (pv 0) (pa_cons (pv 2) (pa_cons (pv 3) pa_nil)))) (pa_cons (pe_op op_add_str (pe_op op_add_str (pe_op op_add_str (pe_op op_add_str (pv 1) pe_str) (pe_callTy call_str_int (by rfl) T.f_str (by decide +kernel) (pa_cons (pv 2) pa_nil))) pe_str) (pe_callTy call_str_int (by rfl) T.f_str (by decide +kernel) (pa_cons (pv 3) pa_nil))) pa_nil)))) (pss_one (ps_ret (pv 0)))), ?_⟩)
  · (repeat (first | exact congrArg List.length h.1 | obtain ⟨_, h⟩ := h))
  · obtain ⟨v, x, s, lo, hi, rfl, hv, hz, ho, q, qe⟩ := h
    unfold okW at ho
    simp only [Bool.and_eq_true] at ho
    obtain ⟨-, o1, o2, o3, o4, o5, o6, o7⟩ := ho
    have hx : EgV K (tVar 0) [some v, some (.str (Str.ofString s)), some (.int lo), some (.int hi)] H x := gv_varE rfl hv
    refine pr_need (F := H) (b := withinV x lo hi) (e := rangeText s lo hi "") (ea_cons (ev_isWith hx (by walk_at "ev") (by walk_at "ev")) (ea_cons (ev_adds (ev_adds (ev_adds (ev_adds (by walk_at "ev") ev_c o1) (ev_strI (by walk_at "ev") o5) o2) ev_c o3) (ev_strI (by walk_at "ev") o6) o4) ea_nil)) (fun _ => ⟨o7, rfl⟩) (fun hb => ?_) (fun hb => qe _ (numIn_no hz hb)) H (Ex.refl H)
    obtain ⟨h1, h2⟩ := numIn_yes (s := s) hz hb
    have h3 : v = .int (natV x : Int) := by
      rw [h2] at hv
      unfold ValAt at hv
      exact hv
    exact pr_ret (ev_var rfl) (q _ h1 h3)
end
end Sl
/-! ## SlNeed4 -/
namespace Sl
open PySem PySem.Spec PyProof.Rows L2 Evl
open R7239g.Spec (Err Res Units naturalOf numberIn numberOrNull boolIn fieldOf rangeText typeErrorWith rangeErrorWith andThen requireRules)
theorem nullOr_eq (s : String) (lo hi : Nat) (x : Val) (h : x ≠ .null) : numberOrNull s lo hi (Rust.taken x) = (match numberIn s lo hi (Rust.taken x) with | .ok n => .ok (some n) | .error _ => .error (rangeText s lo hi " or null")) := by
  have e1 : R7239g.Spec.isNull (Rust.taken x) = false := by cases x <;> first | rfl | exact absurd rfl h
  unfold numberOrNull numberIn
  rw [e1, if_neg (by decide)]
  cases naturalOf (Rust.taken x) with
  | none => rfl
  | some n => 
    show (if _ then _ else _) = (match (if _ then _ else _ : Res Nat) with | .ok n => _ | .error _ => _)
    split <;> rfl
def okN (s : String) (hi : Nat) : Bool :=
  let a : Str := Str.ofString s
  let b : Str := a ++ Str.ofString " must be an integer from 1 to "
  let c : Str := b ++ Str.ofString (toString (hi : Int))
  let d : Str := c ++ Str.ofString " or null"
  Nat.ble (a.length + (Str.ofString " must be an integer from 1 to ").length) 100000 && (Nat.ble (b.length + (Str.ofString (toString (hi : Int))).length) 100000 && (Nat.ble (c.length + (Str.ofString " or null").length) 100000 && (Nat.blt (hi : Int).natAbs.log2 1920 && msgOk d (rangeText s 1 hi " or null"))))
def spNN (K : PySem.W.Frag) : Sp := fun vs H Q E => ∃ (v : V) (x : Val) (s : String) (hi : Nat), vs = [v, .str (Str.ofString s), .int hi] ∧ ValAt K H v x ∧ hi ≤ 1000000 ∧ okN s hi = true ∧
  (∀ o, numberOrNull s 1 hi (Rust.taken x) = .ok o → v = optV o → ∀ H', Ex H H' → Q v H') ∧ ∀ e, numberOrNull s 1 hi (Rust.taken x) = .error e → Out K H E e
section
variable {K : PySem.W.Frag} {σ : L2.St} {F : Hp} {te ts th : TE} {x : Val} {E : XK} {s : String} {hi : Nat}
theorem nn_ok {o : Option Nat} (h : EgV K te σ F x) (hs : Ev ts σ F (.str (Str.ofString s))) (hh : Ev th σ F (.int hi)) (hz : hi ≤ 1000000) (ho : okN s hi = true) (hn : numberOrNull s 1 hi (Rust.taken x) = .ok o) :
    Ev (tCall (spNN K) [] E (tCons te (tCons ts (tCons th tNil)))) σ F (optV o) := fun H1 e Q q =>
  h H1 e _ fun v H2 e2 hv => hs H2 (e.trans e2) _ fun H3 e3 => hh H3 ((e.trans e2).trans e3) _ fun H4 e4 => ⟨v, x, s, hi, rfl, hv.mono (e3.trans e4), hz, ho,
    fun m hm hv2 H6 e6 => by
      rw [hn] at hm
      injection hm with hm
      subst hm
      subst hv2
      exact q H6 (((e2.trans e3).trans e4).trans e6), fun e' he => by rw [hn] at he; cases he⟩
theorem nn_er {er : Err} (h : EgV K te σ F x) (hs : Ev ts σ F (.str (Str.ofString s))) (hh : Ev th σ F (.int hi)) (hz : hi ≤ 1000000) (ho : okN s hi = true) (hn : numberOrNull s 1 hi (Rust.taken x) = .error er) (hE : Out K F E er) :
    Er (tCall (spNN K) [] E (tCons te (tCons ts (tCons th tNil)))) σ F := fun H1 e Q =>
  h H1 e _ fun v H2 e2 hv => hs H2 (e.trans e2) _ fun H3 e3 => hh H3 ((e.trans e2).trans e3) _ fun H4 e4 => ⟨v, x, s, hi, rfl, hv.mono (e3.trans e4), hz, ho,
    fun m hm => (by rw [hn] at hm; cases hm), fun e' he => by
      rw [hn] at he
      injection he with he
      subst he
      exact hE.mono (((e.trans e2).trans e3).trans e4)⟩
end
/-! ### Rules(..) -/
def spRulesI (K : PySem.W.Frag) : Sp := fun vs H Q _ => ∃ (p dx t h : Addr) (r : SR), vs = [.ref p, .ref t, .ref h] ∧ H p = some (.ins (He.ga K "Rules") dx []) ∧ h ≠ p ∧ SqT K H t [.int r.owners, .int r.delay, optV r.life, optV r.number, .int r.grant, optV r.session] ∧
  H h = some (.lst [.bl r.bound, .bl r.near, .bl r.hello, .bl r.once]) ∧ ∀ H', H' p = some (.ins (He.ga K "Rules") dx (rF r)) → (∀ b o, H b = some o → b ≠ p → H' b = some o) → Q .non H'
theorem eg_rules {K : PySem.W.Frag} {σ : L2.St} {F : Hp} {ta tb : TE} {E : XK} {h : Addr} {r : SR} (rk : ROk r) (ha : EvU ta σ F [.int r.owners, .int r.delay, optV r.life, optV r.number, .int r.grant, optV r.session]) (hb : Ev tb σ F (.ref h)) (hh : F h = some (.lst [.bl r.bound, .bl r.near, .bl r.hello, .bl r.once])) :
    Eg (tMake (He.ga K "Rules") (spRulesI K) [] E (tCons ta (tCons tb tNil))) σ F fun v H => ∃ a, v = .ref a ∧ RulesAt K H a r := fun H1 e Q q =>
  ha H1 e _ fun t H2 _ e2 ht => hb H2 (e.trans e2) _ fun H3 e3 => fun x dx nx nd ne => by
    have h3 : H3 h = some (.lst [.bl r.bound, .bl r.near, .bl r.hello, .bl r.once]) := e3 _ _ (e2 _ _ (e _ _ hh))
    have hx : Ex H3 (upd (upd H3 dx (.own x)) x (.ins (He.ga K "Rules") dx [])) := (Ex.new nd).trans (Ex.new (by rw [upd_ne (Ne.symm ne)]; exact nx))
    refine ⟨x, dx, t, h, r, rfl, upd_same, ne_of_none h3 nx, ex_t hx (st_of (e3 _ _ ht)), hx _ _ h3, fun H' h1 k => ⟨rfl, q (.ref x) H' (fun b o hb => Same.made nx nd k b o (e3 _ _ (e2 _ _ hb))) ⟨x, rfl, rk, dx, h1⟩⟩⟩
/-! ### read_rules -/
def spRR (K : PySem.W.Frag) : Sp := fun vs H Q E => ∃ (v : V) (x : Val), vs = [v] ∧ ValAt K H v x ∧ (∀ r, requireRules (Rust.taken x) = .ok r → ∀ a H', Ex H H' → RulesAt K H' a r → Q (.ref a) H') ∧ ∀ e, requireRules (Rust.taken x) = .error e → Out K H E e
abbrev us (s : String) : List UInt8 := (R7239g.Spec.units s).map Rust.octetOf
theorem andThen_ok {α β : Type} (a : α) (f : α → Res β) : andThen (.ok a) f = f a := rfl
theorem andThen_er {α β : Type} (e : Err) (f : α → Res β) : andThen (.error e) f = .error e := rfl
theorem unit_inj {a b : UInt8} (h : Rust.unitOf a = Rust.unitOf b) : a = b := by
  have h1 : (UInt16.ofNat a.toNat).toNat = (UInt16.ofNat b.toNat).toNat := congrArg UInt16.toNat h
  have h2 := a.toNat_lt
  have h3 := b.toNat_lt
  rw [UInt16.toNat_ofNat', UInt16.toNat_ofNat'] at h1
  exact UInt8.toNat_inj.mp (by omega)
theorem units_inj : ∀ {u v : List UInt8}, u.map Rust.unitOf = v.map Rust.unitOf → u = v
  | [], [], _ => rfl
  | [], _ :: _, h => by cases h
  | _ :: _, [], h => by cases h
  | a :: u, b :: v, h => by
    obtain ⟨h1, h2⟩ := List.cons.inj (show Rust.unitOf a :: u.map Rust.unitOf = Rust.unitOf b :: v.map Rust.unitOf from h)
    rw [unit_inj h1, units_inj h2]
theorem field_eq (s : String) (hs : (us s).map Rust.unitOf = R7239g.Spec.units s) : ∀ l : List (RWire.Text × Val), fieldOf (Rust.takenFields l) s = Rust.taken (memb l (us s))
  | [] => rfl
  | e :: r => by
    obtain ⟨n, v⟩ := e
    by_cases h : n = us s
    · rw [memb_hit (e := (n, v)) h]
      show ((((n.map Rust.unitOf, Rust.taken v) :: Rust.takenFields r).find? fun f => f.1 == R7239g.Spec.units s).map (·.2)).getD .undef = _
      rw [List.find?_cons_of_pos (by show (n.map Rust.unitOf == _) = true; rw [h, hs]; exact beq_self_eq_true _)]
      rfl
    · rw [memb_miss (e := (n, v)) h, ← field_eq s hs r]
      show ((((n.map Rust.unitOf, Rust.taken v) :: Rust.takenFields r).find? fun f => f.1 == R7239g.Spec.units s).map (·.2)).getD .undef = _
      rw [List.find?_cons_of_neg (by
        show ¬ (n.map Rust.unitOf == _) = true
        rw [← hs]
        intro z
        exact h (units_inj (eq_of_beq z)))]
      rfl
/-- the four habits, one after another -/
def hb3 (f : String → R7239g.Spec.Plain) (mk : Bool → Bool → Bool → Bool → SR) (a b c : Bool) : Res SR := andThen (boolIn "once" (f "once")) fun d => .ok (mk a b c d)
def hb2 (f : String → R7239g.Spec.Plain) (mk : Bool → Bool → Bool → Bool → SR) (a b : Bool) : Res SR := andThen (boolIn "hello" (f "hello")) fun c => hb3 f mk a b c
def hb1 (f : String → R7239g.Spec.Plain) (mk : Bool → Bool → Bool → Bool → SR) (a : Bool) : Res SR := andThen (boolIn "near" (f "near")) fun b => hb2 f mk a b
def hb0 (f : String → R7239g.Spec.Plain) (mk : Bool → Bool → Bool → Bool → SR) : Res SR := andThen (boolIn "bound" (f "bound")) fun a => hb1 f mk a
def hbs (f : String → R7239g.Spec.Plain) (mk : Bool → Bool → Bool → Bool → SR) : List Bool → Res SR
  | [] => hb0 f mk
  | [a] => hb1 f mk a
  | [a, b] => hb2 f mk a b
  | [a, b, c] => hb3 f mk a b c
  | [a, b, c, d] => .ok (mk a b c d)
  | _ => .ok (mk true true true true)
def habName (i : Nat) : String := ["bound", "near", "hello", "once"].getD i ""
theorem hbs_ok {f : String → R7239g.Spec.Plain} {mk : Bool → Bool → Bool → Bool → SR} {bs : List Bool} {d : Bool} (hi : bs.length < 4) (h : boolIn (habName bs.length) (f (habName bs.length)) = .ok d) : hbs f mk bs = hbs f mk (bs ++ [d]) := by
  match bs, hi with
  | [], _ => show andThen (boolIn (habName 0) (f (habName 0))) _ = _; rw [show boolIn (habName 0) (f (habName 0)) = .ok d from h]; rfl
  | [a], _ => show andThen (boolIn (habName 1) (f (habName 1))) _ = _; rw [show boolIn (habName 1) (f (habName 1)) = .ok d from h]; rfl
  | [a, b], _ => show andThen (boolIn (habName 2) (f (habName 2))) _ = _; rw [show boolIn (habName 2) (f (habName 2)) = .ok d from h]; rfl
  | [a, b, c], _ => show andThen (boolIn (habName 3) (f (habName 3))) _ = _; rw [show boolIn (habName 3) (f (habName 3)) = .ok d from h]; rfl
theorem hbs_er {f : String → R7239g.Spec.Plain} {mk : Bool → Bool → Bool → Bool → SR} {bs : List Bool} {e : Err} (hi : bs.length < 4) (h : boolIn (habName bs.length) (f (habName bs.length)) = .error e) : hbs f mk bs = .error e := by
  match bs, hi with
  | [], _ => show andThen (boolIn (habName 0) (f (habName 0))) _ = _; rw [show boolIn (habName 0) (f (habName 0)) = .error e from h]; rfl
  | [a], _ => show andThen (boolIn (habName 1) (f (habName 1))) _ = _; rw [show boolIn (habName 1) (f (habName 1)) = .error e from h]; rfl
  | [a, b], _ => show andThen (boolIn (habName 2) (f (habName 2))) _ = _; rw [show boolIn (habName 2) (f (habName 2)) = .error e from h]; rfl
  | [a, b, c], _ => show andThen (boolIn (habName 3) (f (habName 3))) _ = _; rw [show boolIn (habName 3) (f (habName 3)) = .error e from h]; rfl
theorem boolIn_yes {s : String} {x : Val} (h : isB x = true) : ∃ b, x = .bool b ∧ boolIn s (Rust.taken x) = .ok b := by
  cases x <;> first | cases h; done | exact ⟨_, rfl, rfl⟩
theorem boolIn_no {s : String} {x : Val} (h : isB x = false) : boolIn s (Rust.taken x) = .error (typeErrorWith (s ++ " must be true or false")) := by
  cases x <;> first | rfl | cases h
def okH (i : Nat) : Bool := decide ((us (habName i)).map Rust.unitOf = R7239g.Spec.units (habName i)) && (decide (Str.ofString (habName i) = enc (us (habName i))) && (msgOk (Str.ofString (habName i) ++ Str.ofString " must be true or false") (typeErrorWith (habName i ++ " must be true or false")) &&
  Nat.ble ((Str.ofString (habName i)).length + (Str.ofString " must be true or false").length) 100000))
theorem okH_all : ((okH 0 && okH 1) && (okH 2 && okH 3)) = true := by decide +kernel
theorem okH_at {i : Nat} (hi : i < 4) : okH i = true := by
  have h := okH_all
  simp only [Bool.and_eq_true] at h
  match i, hi with
  | 0, _ => exact h.1.1
  | 1, _ => exact h.1.2
  | 2, _ => exact h.2.1
  | 3, _ => exact h.2.2
theorem numIn_rng {s : String} {a b n : Nat} {p : R7239g.Spec.Plain} (h : numberIn s a b p = .ok n) : a ≤ n ∧ n ≤ b := by
  unfold numberIn at h
  split at h
  · split at h
    · rename_i hc
      injection h with h
      subst h
      exact hc
    · cases h
  · cases h
theorem nullOr_rng {s : String} {a b n : Nat} {o : Option Nat} {p : R7239g.Spec.Plain} (h : numberOrNull s a b p = .ok o) (e : o = some n) : a ≤ n ∧ n ≤ b := by
  unfold numberOrNull at h
  split at h
  · injection h with h
    rw [← h] at e
    cases e
  · split at h
    · split at h
      · rename_i hc
        injection h with h
        rw [← h] at e
        injection e with e
        subst e
        exact hc
      · cases h
    · cases h
theorem rok_of {o d g : Nat} {li nu se : Option Nat} {b1 b2 b3 b4 : Bool} {s1 s2 s3 s4 s5 s6 : String} {p1 p2 p3 p4 p5 p6 : R7239g.Spec.Plain} (h1 : numberIn s1 1 3 p1 = .ok o) (h2 : numberIn s2 1 20 p2 = .ok d) (h3 : numberOrNull s3 1 50 p3 = .ok li) (h4 : numberOrNull s4 1 50 p4 = .ok nu) (h5 : numberIn s5 1 20 p5 = .ok g) (h6 : numberOrNull s6 1 100 p6 = .ok se) :
    ROk ⟨o, d, li, nu, g, se, b1, b2, b3, b4⟩ :=
  ⟨(numIn_rng h1).1, (numIn_rng h1).2, (numIn_rng h2).1, (numIn_rng h2).2, fun _ e => nullOr_rng h3 e, fun _ e => nullOr_rng h4 e, (numIn_rng h5).1, (numIn_rng h5).2, fun _ e => nullOr_rng h6 e⟩
local macro_rules
  | `(tactic| walk_at "ev") => `(tactic| first
    | exact ev_c
    | exact ev_var rfl
    | (refine' ev_fld ?k1 ?k2 ?k3 ?k4 ?k5; (case k1 => walk_at "ev"); (case k2 => assumption); (case k3 => exact Tx.cl (by assumption) rfl); (case k4 => exact Tx.na (by assumption) rfl); (case k5 => rfl))
    | (refine' ev_meth ?k1 ?k2 ?k3 ?k4 ?k5; (case k1 => walk_at "ev"); (case k2 => assumption); (case k3 => rfl); (case k4 => walk_at "ev"); (case k5 => walk_at "sp"))
    | (refine' ev_callG ?k1 ?k2; (case k1 => walk_at "ev"); (case k2 => walk_at "sp"))
    | (refine' ev_isN ?k1; (case k1 => walk_at "ev"))
    | (refine' ev_notN ?k1; (case k1 => walk_at "ev"))
    | (refine' ev_int ?k1 ?k2; (case k1 => walk_at "ev"); (case k2 => walk_at "ev"))
    | (refine' ev_sc ?k1 ?k2 ?k3; (case k1 => walk_at "ev"); (case k2 => walk_at "ev"); (case k3 => rfl))
    | (refine' ev_scn ?k1 ?k2 ?k3; (case k1 => walk_at "ev"); (case k2 => walk_at "ev"); (case k3 => rfl))
    | (refine' ev_notV ?k1; (case k1 => walk_at "ev"))
    | (refine' ev_andV ?k1 ?k2; (case k1 => walk_at "ev"); (case k2 => intro _; walk_at "ev"))
    | (refine' ev_orV ?k1 ?k2; (case k1 => walk_at "ev"); (case k2 => intro _; walk_at "ev"))
    | (refine' et_test ?k1; (case k1 => walk_at "ev"))
    | (refine' et_B ?k1; (case k1 => walk_at "ev"))
    | (refine' et_and ?k1 ?k2; (case k1 => walk_at "ev"); (case k2 => intro _; walk_at "ev"))
    | (refine' et_or ?k1 ?k2; (case k1 => walk_at "ev"); (case k2 => intro _; walk_at "ev"))
    | (refine' et_not ?k1; (case k1 => walk_at "ev"))
    | exact ea_nil
    | (refine' ea_cons ?k1 ?k2; (case k1 => walk_at "ev"); (case k2 => walk_at "ev")))
local macro_rules
  | `(tactic| walk_at "sp") => `(tactic| first | exact spR_go (by assumption) | exact spExc_go (by assumption))
section
variable {P : Program} {w : World} {K : PySem.W.Frag} {mg : Str → Option Value} {base : Heap}
theorem sc_need_or_null : FnScope ["value", "name", "high", "message"] ["value", "name", "high"] d_need_or_null.scope := ⟨rfl, rfl, rfl, by decide +kernel, rfl, by decide +kernel, by decide +kernel⟩
theorem ok_need_or_null (T : Tx w K mg) : FnOk P w K mg base (L2N.CX P w) 5 (He.ga K "need_or_null") (fdOf K (He.ga K "need_or_null")) ["value", "name", "high"] (spNN K) := by
  refine mkOkX T.F_need_or_null sc_need_or_null (fun vs H Q E h => ?_) (fun cdv A outer s H vs Q E hr h => ⟨_, (pss_cons (ps_set (i := 3) sc_need_or_null.nd rfl (Or.inl rfl) (pe_op op_add_str (pe_op op_add_str (pe_op op_add_str (pv 1) pe_str) (pe_callTy call_str_int (by rfl) T.f_str (by decide +kernel) (pa_cons (pv 2) pa_nil))) pe_str)) (pss_cons (ps_expr (pe_call (ok_need_range T) (hr.mono (by decide)) rfl T.g_need_range T.kp_need_range T.B_need_range .nil (L2N.passes_call (L2N.takes_of rfl rfl rfl rfl) (fun _ _ _ _ h => h)) (pa_cons (pe_or (pe_cmpR op_isN (pv 0) pe_non (nomark _)) (pe_one (pe_call (ok_is_within T) (hr.mono (by decide)) rfl T.g_is_within T.kp_is_within T.B_is_within .nil pass0 (pa_cons (pv 0) (pa_cons pe_int (pa_cons (pv 2) pa_nil)))))) (pa_cons (pv 3) pa_nil)))) (pss_one (ps_ret (pv 0))))), ?_⟩)
  · (repeat (first | exact congrArg List.length h.1 | obtain ⟨_, h⟩ := h))
  · obtain ⟨v, x, s, hi, rfl, hv, hz, ho, q, qe⟩ := h
    unfold okN at ho
    simp only [Bool.and_eq_true] at ho
    obtain ⟨o1, o2, o3, o4, o5⟩ := ho
    refine pr_asg (F := H) (ev_adds (ev_adds (ev_adds (by walk_at "ev") ev_c o1) (ev_strI (by walk_at "ev") o4) o2) ev_c o3) ?_ H (Ex.refl H)
    have hx : EgV K (tVar 0) [some v, some (.str (Str.ofString s)), some (.int hi), some (.str (((Str.ofString s ++ Str.ofString " must be an integer from 1 to ") ++ Str.ofString (toString (hi : Int))) ++ Str.ofString " or null"))] H x := gv_varE rfl hv
    by_cases hn : x = .null
    · subst hn
      unfold ValAt at hv
      subst hv
      exact pr_need (b := true) (e := rangeText s 1 hi " or null") (ea_cons (ev_orV (a := true) (b := true) (ev_is (ev_isN (ev_var (v := .non) rfl)) rfl) fun h => Bool.noConfusion h) (ea_cons (ev_var rfl) ea_nil)) (fun h => Bool.noConfusion h) (fun _ => pr_ret (ev_var rfl) (q none rfl rfl)) fun h => Bool.noConfusion h
    · have hvn : decide (v = V.non) = false := by
        refine decide_eq_false fun z => hn ?_
        subst z
        cases x <;> unfold ValAt at hv <;> first | rfl | (cases hv; done) | (obtain ⟨_, _, z, _⟩ := hv; cases z; done) | (obtain ⟨_, _, _, _, z, _⟩ := hv; cases z; done) | exact hv.elim
      refine pr_need (b := withinV x 1 hi) (e := rangeText s 1 hi " or null") (ea_cons (ev_is (ev_orV (a := decide (v = V.non)) (ev_isN (ev_var rfl)) fun _ => ev_isWith hx ev_c (by walk_at "ev")) (by rw [hvn, Bool.false_or])) (ea_cons (ev_var rfl) ea_nil)) (fun _ => ⟨o5, rfl⟩) (fun hb => ?_) fun hb => qe _ ?_
      · obtain ⟨h1, h2⟩ := numIn_yes (s := s) (lo := 1) hz hb
        have h3 : v = .int (natV x : Int) := by
          rw [h2] at hv
          unfold ValAt at hv
          exact hv
        exact pr_ret (ev_var rfl) (q (some (natV x)) (by rw [nullOr_eq s 1 hi x hn, h1]) h3)
      · rw [nullOr_eq s 1 hi x hn, numIn_no (lo := 1) hz hb]
theorem sc_Rules_init : FnScope ["self", "numbers", "habits"] ["self", "numbers", "habits"] d_Rules_init.scope := ⟨rfl, rfl, rfl, by decide +kernel, rfl, by decide +kernel, by decide +kernel⟩
theorem ok_Rules_init (T : Tx w K mg) : FnOk P w K mg base CX0 1 (He.ma K (He.ga K "Rules") "__init__") (fdOf K (He.ma K (He.ga K "Rules") "__init__")) ["self", "numbers", "habits"] (spRulesI K) := by
  refine mkOk T.F_Rules_init ⟨rfl, rfl⟩ sc_Rules_init (fun vs H Q E h => ?_) (fun cdv A outer s H vs Q E hr h => ⟨_, (pss_cons (ps_asg (pv 1) (pg_tup rfl (pgs_cons (pg_fld (pv 0)) (pgs_cons (pg_fld (pv 0)) (pgs_cons (pg_fld (pv 0)) (pgs_cons (pg_fld (pv 0)) (pgs_cons (pg_fld (pv 0)) (pgs_cons (pg_fld (pv 0)) pgs_nil)))))))) (pss_one (ps_asg (pv 2) (pg_lst rfl (pgs_cons (pg_fld (pv 0)) (pgs_cons (pg_fld (pv 0)) (pgs_cons (pg_fld (pv 0)) (pgs_cons (pg_fld (pv 0)) pgs_nil)))))))), ?_⟩)
  · (repeat (first | exact congrArg List.length h.1 | obtain ⟨_, h⟩ := h))
  · obtain ⟨p, dx, t, h, r, rfl, hp, hne, ht, hh, q⟩ := h
    refine ⟨_, rfl, t, _, rfl, ht, rfl, ?_⟩
    refine ⟨_, _, rfl, ⟨_, rfl, p, _, dx, _, rfl, hp, T.c_Rules, T.n_Rules_owners, (by show 0 < 1000; decide), ?_⟩⟩
    refine ⟨_, _, rfl, ⟨_, rfl, p, _, dx, _, rfl, upd_same, T.c_Rules, T.n_Rules_delay, (by show 1 < 1000; decide), ?_⟩⟩
    refine ⟨_, _, rfl, ⟨_, rfl, p, _, dx, _, rfl, upd_same, T.c_Rules, T.n_Rules_life, (by show 2 < 1000; decide), ?_⟩⟩
    refine ⟨_, _, rfl, ⟨_, rfl, p, _, dx, _, rfl, upd_same, T.c_Rules, T.n_Rules_number, (by show 3 < 1000; decide), ?_⟩⟩
    refine ⟨_, _, rfl, ⟨_, rfl, p, _, dx, _, rfl, upd_same, T.c_Rules, T.n_Rules_grant, (by show 4 < 1000; decide), ?_⟩⟩
    refine ⟨_, _, rfl, ⟨_, rfl, p, _, dx, _, rfl, upd_same, T.c_Rules, T.n_Rules_session, (by show 5 < 1000; decide), ?_⟩⟩
    refine ⟨rfl, ?_⟩
    refine ⟨_, rfl, h, _, rfl, sq_of (by rw [upd_ne hne, upd_ne hne, upd_ne hne, upd_ne hne, upd_ne hne, upd_ne hne]; exact hh), rfl, ?_⟩
    refine ⟨_, _, rfl, ⟨_, rfl, p, _, dx, _, rfl, upd_same, T.c_Rules, T.n_Rules_bound, (by show 6 < 1000; decide), ?_⟩⟩
    refine ⟨_, _, rfl, ⟨_, rfl, p, _, dx, _, rfl, upd_same, T.c_Rules, T.n_Rules_near, (by show 7 < 1000; decide), ?_⟩⟩
    refine ⟨_, _, rfl, ⟨_, rfl, p, _, dx, _, rfl, upd_same, T.c_Rules, T.n_Rules_hello, (by show 8 < 1000; decide), ?_⟩⟩
    refine ⟨_, _, rfl, ⟨_, rfl, p, _, dx, _, rfl, upd_same, T.c_Rules, T.n_Rules_once, (by show 9 < 1000; decide), ?_⟩⟩
    refine ⟨rfl, ?_⟩
    refine q _ upd_same fun b o hb hbp => ?_
    rw [upd_ne hbp, upd_ne hbp, upd_ne hbp, upd_ne hbp, upd_ne hbp, upd_ne hbp, upd_ne hbp, upd_ne hbp, upd_ne hbp, upd_ne hbp]
    exact hb
theorem sc_read_rules : FnScope ["value", "owners", "delay", "life", "number", "grant", "session", "habits", "name"] ["value"] d_read_rules.scope := ⟨rfl, rfl, rfl, by decide +kernel, rfl, by decide +kernel, by decide +kernel⟩
theorem ok_read_rules (T : Tx w K mg) : FnOk P w K mg base (L2N.CX P w) 6 (He.ga K "read_rules") (fdOf K (He.ga K "read_rules")) ["value"] (spRR K) := by
  refine mkOkX T.F_read_rules sc_read_rules (fun vs H Q E h => ?_) (fun cdv A outer s H vs Q E hr h => ⟨_, (pss_cons (ps_expr (pe_call (ok_need_kind T) (hr.mono (by decide)) rfl T.g_need_kind T.kp_need_kind T.B_need_kind .nil (L2N.passes_call (L2N.takes_of rfl rfl rfl rfl) (fun _ _ _ _ h => h)) (pa_cons (pe_callB call_isi (by rfl) T.f_isinstance (by decide +kernel) (pa_cons (pv 0) (pa_cons (pe_glob (v := .ref (He.ga K "Record")) rfl T.g_Record rfl) pa_nil))) (pa_cons pe_str pa_nil)))) (pss_cons (ps_set (i := 1) sc_read_rules.nd rfl (Or.inl rfl) (pe_call (ok_need_within T) (hr.mono (by decide)) rfl T.g_need_within T.kp_need_within T.B_need_within .nil (L2N.passes_call (L2N.takes_of rfl rfl rfl rfl) (fun _ _ _ _ h => h)) (pa_cons (pe_meth (pv 0) T.c_Record T.m_Record_member (ok_Record_member T) (hr.mono (by decide)) T.B_Record_member .nil pass0 (pa_cons pe_str pa_nil)) (pa_cons pe_str (pa_cons pe_int (pa_cons pe_int pa_nil)))))) (pss_cons (ps_set (i := 2) sc_read_rules.nd rfl (Or.inl rfl) (pe_call (ok_need_within T) (hr.mono (by decide)) rfl T.g_need_within T.kp_need_within T.B_need_within .nil (L2N.passes_call (L2N.takes_of rfl rfl rfl rfl) (fun _ _ _ _ h => h)) (pa_cons (pe_meth (pv 0) T.c_Record T.m_Record_member (ok_Record_member T) (hr.mono (by decide)) T.B_Record_member .nil pass0 (pa_cons pe_str pa_nil)) (pa_cons pe_str (pa_cons pe_int (pa_cons pe_int pa_nil)))))) (pss_cons (ps_set (i := 3) sc_read_rules.nd rfl (Or.inl rfl) (pe_call (ok_need_or_null T) (hr.mono (by decide)) rfl T.g_need_or_null T.kp_need_or_null T.B_need_or_null .nil (L2N.passes_call (L2N.takes_of rfl rfl rfl rfl) (fun _ _ _ _ h => h)) (pa_cons (pe_meth (pv 0) T.c_Record T.m_Record_member (ok_Record_member T) (hr.mono (by decide)) T.B_Record_member .nil pass0 (pa_cons pe_str pa_nil)) (pa_cons pe_str (pa_cons pe_int pa_nil))))) (pss_cons (ps_set (i := 4) sc_read_rules.nd rfl (Or.inl rfl) (pe_call (ok_need_or_null T) (hr.mono (by decide)) rfl T.g_need_or_null T.kp_need_or_null T.B_need_or_null .nil (L2N.passes_call (L2N.takes_of rfl rfl rfl rfl) (fun _ _ _ _ h => h)) (pa_cons (pe_meth (pv 0) T.c_Record T.m_Record_member (ok_Record_member T) (hr.mono (by decide)) T.B_Record_member .nil pass0 (pa_cons pe_str pa_nil)) (pa_cons pe_str (pa_cons pe_int pa_nil))))) (pss_cons (ps_set (i := 5) sc_read_rules.nd rfl (Or.inl rfl) (pe_call (ok_need_within T) (hr.mono (by decide)) rfl T.g_need_within T.kp_need_within T.B_need_within .nil (L2N.passes_call (L2N.takes_of rfl rfl rfl rfl) (fun _ _ _ _ h => h)) (pa_cons (pe_meth (pv 0) T.c_Record T.m_Record_member (ok_Record_member T) (hr.mono (by decide)) T.B_Record_member .nil pass0 (pa_cons pe_str pa_nil)) (pa_cons pe_str (pa_cons pe_int (pa_cons pe_int pa_nil)))))) (pss_cons (ps_set (i := 6) sc_read_rules.nd rfl (Or.inl rfl) (pe_call (ok_need_or_null T) (hr.mono (by decide)) rfl T.g_need_or_null T.kp_need_or_null T.B_need_or_null .nil (L2N.passes_call (L2N.takes_of rfl rfl rfl rfl) (fun _ _ _ _ h => h)) (pa_cons (pe_meth (pv 0) T.c_Record T.m_Record_member (ok_Record_member T) (hr.mono (by decide)) T.B_Record_member .nil pass0 (pa_cons pe_str pa_nil)) (pa_cons pe_str (pa_cons pe_int pa_nil))))) (pss_cons (ps_set (i := 7) sc_read_rules.nd rfl (Or.inl rfl) (pe_lst pa_nil)) (pss_cons (ps_for PassesOwn.leaving rfl (pi_tup (pe_glob (v := .ref (He.ga K "HABITS")) rfl T.g_HABITS rfl)) (pg_name (i := 8) sc_read_rules.nd rfl (Or.inl rfl)) (pss_cons (ps_expr (pe_call (ok_need_kind T) (hr.mono (by decide)) rfl T.g_need_kind T.kp_need_kind T.B_need_kind .nil (L2N.passes_call (L2N.takes_of rfl rfl rfl rfl) (fun _ _ _ _ h => h)) (pa_cons (pe_callB call_isi (by rfl) T.f_isinstance (by decide +kernel) (pa_cons (pe_meth (pv 0) T.c_Record T.m_Record_member (ok_Record_member T) (hr.mono (by decide)) T.B_Record_member .nil pass0 (pa_cons (pv 8) pa_nil)) (pa_cons (pe_bltn (v := .ty "bool") (u := .type "bool") (by rfl) T.f_bool (by decide +kernel) rfl) pa_nil))) (pa_cons (pe_op op_add_str (pv 8) pe_str) pa_nil)))) (pss_one (ps_expr (pe_bm PySem.F.plainAttrs_list PySem.F.slot_list_append PySem.F.type_list_append mt_append (pv 7) (pa_cons (pe_meth (pv 0) T.c_Record T.m_Record_member (ok_Record_member T) (hr.mono (by decide)) T.B_Record_member .nil pass0 (pa_cons (pv 8) pa_nil)) pa_nil)))))) (pss_one (ps_ret (pe_make T.k_Rules (ok_Rules_init T) (hr.mono (by decide)) rfl T.g_Rules T.B_Rules_init .nil pass0 (pa_cons (pe_tup (pa_cons (pv 1) (pa_cons (pv 2) (pa_cons (pv 3) (pa_cons (pv 4) (pa_cons (pv 5) (pa_cons (pv 6) pa_nil))))))) (pa_cons (pv 7) pa_nil)))))))))))))), ?_⟩)
  · (repeat (first | exact congrArg List.length h.1 | obtain ⟨_, h⟩ := h))
  · obtain ⟨v, x, rfl, hv, q, qe⟩ := h
    have hx : ∀ (σ : L2.St), σ[0]? = some (some v) → EgV K (tVar 0) σ H x := fun σ e => gv_varE e hv
    cases hR : isR x with
    | false =>
      refine pr_need (F := H) (b := false) (m := "rules must be a record") (e := typeErrorWith "rules must be a record") (ea_cons (ev_is (ev_isR (hx _ rfl) T) (by rw [hR])) (ea_cons ev_c ea_nil)) (fun _ => ⟨by decide +kernel, rfl⟩) (fun h => Bool.noConfusion h) (fun _ => qe _ ?_) H (Ex.refl H)
      cases x <;> first | rfl | cases hR
    | true =>
      refine pr_need (F := H) (b := true) (m := "rules must be a record") (e := typeErrorWith "rules must be a record") (ea_cons (ev_is (ev_isR (hx _ rfl) T) (by rw [hR])) (ea_cons ev_c ea_nil)) (fun h => Bool.noConfusion h) (fun _ => ?_) (fun h => Bool.noConfusion h) H (Ex.refl H)
      cases x with
      | record l =>
        have mem : ∀ (F : Hp) (σ : L2.St) (s : String) {E : XK}, Ex H F → σ[0]? = some (some v) → Str.ofString s = enc (us s) → EgV K (tMeth (He.ga K "Record") "member" (spMem K) [] E (tVar 0) (tCons (tC (.str (Str.ofString s))) tNil)) σ F (memb l (us s)) := fun F σ s E xF e0 es => eg_member (ev_var e0) (hv.mono xF) (ev_is ev_c (by rw [es]))
        obtain ⟨mk, hmk⟩ : ∃ mk : Nat → Nat → Option Nat → Option Nat → Nat → Option Nat → Bool → Bool → Bool → Bool → SR, mk = fun o d e t g n b1 b2 b3 b4 => ⟨o, d, e, t, g, n, b1, b2, b3, b4⟩ := ⟨_, rfl⟩
        have hC : requireRules (Rust.taken (.record l)) = andThen (numberIn "owners" 1 3 (Rust.taken (memb l (us "owners")))) fun o => andThen (numberIn "delay" 1 20 (Rust.taken (memb l (us "delay")))) fun d => andThen (numberOrNull "life" 1 50 (Rust.taken (memb l (us "life")))) fun e =>
            andThen (numberOrNull "number" 1 50 (Rust.taken (memb l (us "number")))) fun t => andThen (numberIn "grant" 1 20 (Rust.taken (memb l (us "grant")))) fun g => andThen (numberOrNull "session" 1 100 (Rust.taken (memb l (us "session")))) fun n =>
            hbs (fun s => fieldOf (Rust.takenFields l) s) (mk o d e t g n) [] := by
          rw [hmk, ← field_eq "owners" (by decide +kernel), ← field_eq "delay" (by decide +kernel), ← field_eq "life" (by decide +kernel), ← field_eq "number" (by decide +kernel), ← field_eq "grant" (by decide +kernel), ← field_eq "session" (by decide +kernel)]
          rfl
        cases h1 : numberIn "owners" 1 3 (Rust.taken (memb l (us "owners"))) with
        | error e => exact pr_asgE (nw_er (mem H _ "owners" (Ex.refl H) rfl (by decide +kernel)) ev_c ev_c ev_c (by decide) (by decide +kernel) h1 (qe e (by rw [hC, h1]; rfl)))
        | ok o =>
        refine pr_asg (nw_ok (mem H _ "owners" (Ex.refl H) rfl (by decide +kernel)) ev_c ev_c ev_c (by decide) (by decide +kernel) h1) ?_
        rw [h1, andThen_ok] at hC
        cases h2 : numberIn "delay" 1 20 (Rust.taken (memb l (us "delay"))) with
        | error e => exact pr_asgE (nw_er (mem H _ "delay" (Ex.refl H) rfl (by decide +kernel)) ev_c ev_c ev_c (by decide) (by decide +kernel) h2 (qe e (by rw [hC, h2]; rfl)))
        | ok d =>
        refine pr_asg (nw_ok (mem H _ "delay" (Ex.refl H) rfl (by decide +kernel)) ev_c ev_c ev_c (by decide) (by decide +kernel) h2) ?_
        rw [h2, andThen_ok] at hC
        cases h3 : numberOrNull "life" 1 50 (Rust.taken (memb l (us "life"))) with
        | error e => exact pr_asgE (nn_er (mem H _ "life" (Ex.refl H) rfl (by decide +kernel)) ev_c ev_c (by decide) (by decide +kernel) h3 (qe e (by rw [hC, h3]; rfl)))
        | ok li =>
        refine pr_asg (nn_ok (mem H _ "life" (Ex.refl H) rfl (by decide +kernel)) ev_c ev_c (by decide) (by decide +kernel) h3) ?_
        rw [h3, andThen_ok] at hC
        cases h4 : numberOrNull "number" 1 50 (Rust.taken (memb l (us "number"))) with
        | error e => exact pr_asgE (nn_er (mem H _ "number" (Ex.refl H) rfl (by decide +kernel)) ev_c ev_c (by decide) (by decide +kernel) h4 (qe e (by rw [hC, h4]; rfl)))
        | ok nu =>
        refine pr_asg (nn_ok (mem H _ "number" (Ex.refl H) rfl (by decide +kernel)) ev_c ev_c (by decide) (by decide +kernel) h4) ?_
        rw [h4, andThen_ok] at hC
        cases h5 : numberIn "grant" 1 20 (Rust.taken (memb l (us "grant"))) with
        | error e => exact pr_asgE (nw_er (mem H _ "grant" (Ex.refl H) rfl (by decide +kernel)) ev_c ev_c ev_c (by decide) (by decide +kernel) h5 (qe e (by rw [hC, h5]; rfl)))
        | ok g =>
        refine pr_asg (nw_ok (mem H _ "grant" (Ex.refl H) rfl (by decide +kernel)) ev_c ev_c ev_c (by decide) (by decide +kernel) h5) ?_
        rw [h5, andThen_ok] at hC
        cases h6 : numberOrNull "session" 1 100 (Rust.taken (memb l (us "session"))) with
        | error e => exact pr_asgE (nn_er (mem H _ "session" (Ex.refl H) rfl (by decide +kernel)) ev_c ev_c (by decide) (by decide +kernel) h6 (qe e (by rw [hC, h6]; rfl)))
        | ok se =>
        refine pr_asg (nn_ok (mem H _ "session" (Ex.refl H) rfl (by decide +kernel)) ev_c ev_c (by decide) (by decide +kernel) h6) ?_
        rw [h6, andThen_ok] at hC
        have rk : ∀ b1 b2 b3 b4, ROk (mk o d li nu g se b1 b2 b3 b4) := fun b1 b2 b3 b4 => by
          rw [hmk]
          exact rok_of h1 h2 h3 h4 h5 h6
        intro H0 x0
        refine ⟨sz_of (by show 0 ≤ 100000; decide), fun p hp => ?_⟩
        have xp : Ex H0 (upd H0 p (.lst [])) := Ex.new hp
        refine q_forT (H := upd H0 p (.lst [])) (a := He.ga K "HABITS") (xs := [.str "bound", .str "near", .str "hello", .str "once"]) ev_c (He.tupB_ok T.tups.2.1 _)
          (fun i σ' H' => Ex H0 H' ∧ (∃ y, σ' = [some v, some (.int o), some (.int d), some (optV li), some (optV nu), some (.int g), some (optV se), some (.ref p), y]) ∧ ∃ bs : List Bool, bs.length = i ∧ H' p = some (.lst (bs.map V.bl)) ∧ requireRules (Rust.taken (.record l)) = hbs (fun s => fieldOf (Rust.takenFields l) s) (mk o d li nu g se) bs)
          (fun H1 x1 => ⟨xp.trans x1, ⟨_, rfl⟩, [], rfl, x1 _ _ upd_same, hC⟩) (fun i σ' H' _ _ => He.tupB_ok T.tups.2.1 _) (fun i y σ' H' hi pv => ?_) fun σ' H' pv => ?_
        · obtain ⟨x1, ⟨y0, rfl⟩, bs, rfl, hl, hc⟩ := pv
          have hi4 : bs.length < 4 := (List.getElem?_eq_some_iff.mp hi).1
          have hy : y = .str (Str.ofString (habName bs.length)) := by
            generalize bs.length = k at hi hi4
            match k, hi4 with
            | 0, _ => injection hi with hi; exact hi.symm
            | 1, _ => injection hi with hi; exact hi.symm
            | 2, _ => injection hi with hi; exact hi.symm
            | 3, _ => injection hi with hi; exact hi.symm
          subst hy
          have ok := okH_at hi4
          unfold okH at ok
          simp only [Bool.and_eq_true, decide_eq_true_eq] at ok
          obtain ⟨k1, k2, k3, k4⟩ := ok
          have kf := field_eq (habName bs.length) k1 l
          have m8 : ∀ {E : XK}, EgV K (tMeth (He.ga K "Record") "member" (spMem K) [] E (tVar 0) (tCons (tVar 8) tNil)) [some v, some (.int o), some (.int d), some (optV li), some (optV nu), some (.int g), some (optV se), some (.ref p), some (.str (Str.ofString (habName bs.length)))] H' (memb l (us (habName bs.length))) := fun {E} => eg_member (ev_var rfl) (hv.mono (x0.trans x1)) (ev_is (ev_var rfl) (by rw [k2]))
          refine pr_need (F := H') (b := isB (memb l (us (habName bs.length)))) (e := typeErrorWith (habName bs.length ++ " must be true or false")) (ea_cons (ev_isB m8 T) (ea_cons (ev_adds (ev_var rfl) ev_c k4) ea_nil)) (fun _ => ⟨k3, rfl⟩) (fun hb => ?_) (fun hb => ?_) H' (Ex.refl H')
          · obtain ⟨b, hb1, hb2⟩ := boolIn_yes (s := habName bs.length) hb
            intro H2 x2
            refine s_app (x2 _ _ hl) (ev_var rfl) (v := .bl b) (ev_eg ((m8.mono x2).weak fun v H _ hv => ?_)) (by rw [List.length_map]; omega) fun H3 x3 => ?_
            · rw [hb1] at hv
              unfold ValAt at hv
              exact hv
            · refine ⟨Ex.mut (x1.trans (x2.trans x3)) hp, ⟨_, rfl⟩, bs ++ [b], by rw [List.length_append]; rfl, by rw [upd_same, List.map_append]; rfl, ?_⟩
              rw [hc]
              exact hbs_ok hi4 (by rw [kf]; exact hb2)
          · have z := hbs_er (mk := mk o d li nu g se) (f := fun s => fieldOf (Rust.takenFields l) s) hi4 (by rw [kf]; exact boolIn_no hb)
            exact (qe _ (by rw [hc, z])).mono (x0.trans x1)
        · obtain ⟨x1, ⟨y0, rfl⟩, bs, hb4, hl, hc⟩ := pv
          match bs, hb4 with
          | [b1, b2, b3, b4], _ =>
            have hr : requireRules (Rust.taken (.record l)) = .ok (mk o d li nu g se b1 b2 b3 b4) := hc
            have rr := rk b1 b2 b3 b4
            rw [hmk] at hr rr
            refine pr_retG (F := H') (eg_rules (h := p) rr (eu_tup (ea_cons (ev_var rfl) (ea_cons (ev_var rfl) (ea_cons (ev_var rfl) (ea_cons (ev_var rfl) (ea_cons (ev_var rfl) (ea_cons (ev_var rfl) ea_nil)))))) (by show 6 ≤ 100000; decide)) (ev_var rfl) hl) (fun v H2 x2 hv => ?_) H' (Ex.refl H')
            obtain ⟨a, rfl, ha⟩ := hv
            exact q _ hr a H2 (x0.trans (x1.trans x2)) ha
      | _ => cases hR
end
end Sl
/-! ## SlTold -/
namespace Sl
open PySem PySem.Spec PyProof.Rows L2 Evl
open R7239g.Spec (natOrNull rulesPlain)
/-! ### records told -/
section
variable {K : PySem.W.Frag} {σ : L2.St} {F : Hp} {te : TE} {E : XK}
theorem gv_record {es : List (RWire.Text × Val)} (h : EgE K te σ F es) : EgV K (tMake (He.ga K "Record") (spFields (He.ga K "Record") 1 recF) [] E (tCons te tNil)) σ F (.record es) := fun H1 e Q q =>
  h H1 e _ fun v H2 e2 p => by
    obtain ⟨m, ts, rfl, hm, he⟩ := p
    intro x dx nx nd ne
    refine ⟨x, dx, [.ref m], rfl, rfl, upd_same, fun H' h1 k => ⟨rfl, ?_⟩⟩
    have x3 : Ex H2 H' := fun b o hb => Same.made nx nd k b o hb
    refine q (.ref x) H' (e2.trans x3) ?_
    unfold ValAt
    exact ⟨x, dx, m, ts, rfl, h1, x3 _ _ hm, he.mono x3⟩
theorem gv_opt {o : Option Nat} (h : Ev te σ F (optV o)) : EgV K te σ F (gv (natOrNull o)) := by
  cases o with
  | none => exact gv_non h
  | some n => exact gv_int h
end
def spTold (K : PySem.W.Frag) : Sp := spV K fun r => gv (rulesPlain r)
local macro_rules
  | `(tactic| walk_at "ev") => `(tactic| first
    | exact ev_c
    | exact ev_var rfl
    | (refine' ev_fld ?k1 ?k2 ?k3 ?k4 ?k5; (case k1 => walk_at "ev"); (case k2 => assumption); (case k3 => exact Tx.cl (by assumption) rfl); (case k4 => exact Tx.na (by assumption) rfl); (case k5 => rfl))
    | (refine' ev_meth ?k1 ?k2 ?k3 ?k4 ?k5; (case k1 => walk_at "ev"); (case k2 => assumption); (case k3 => rfl); (case k4 => walk_at "ev"); (case k5 => walk_at "sp"))
    | (refine' ev_callG ?k1 ?k2; (case k1 => walk_at "ev"); (case k2 => walk_at "sp"))
    | (refine' ev_isN ?k1; (case k1 => walk_at "ev"))
    | (refine' ev_notN ?k1; (case k1 => walk_at "ev"))
    | (refine' ev_int ?k1 ?k2; (case k1 => walk_at "ev"); (case k2 => walk_at "ev"))
    | (refine' ev_sc ?k1 ?k2 ?k3; (case k1 => walk_at "ev"); (case k2 => walk_at "ev"); (case k3 => rfl))
    | (refine' ev_scn ?k1 ?k2 ?k3; (case k1 => walk_at "ev"); (case k2 => walk_at "ev"); (case k3 => rfl))
    | (refine' ev_notV ?k1; (case k1 => walk_at "ev"))
    | (refine' ev_andV ?k1 ?k2; (case k1 => walk_at "ev"); (case k2 => intro _; walk_at "ev"))
    | (refine' ev_orV ?k1 ?k2; (case k1 => walk_at "ev"); (case k2 => intro _; walk_at "ev"))
    | (refine' et_test ?k1; (case k1 => walk_at "ev"))
    | (refine' et_B ?k1; (case k1 => walk_at "ev"))
    | (refine' et_and ?k1 ?k2; (case k1 => walk_at "ev"); (case k2 => intro _; walk_at "ev"))
    | (refine' et_or ?k1 ?k2; (case k1 => walk_at "ev"); (case k2 => intro _; walk_at "ev"))
    | (refine' et_not ?k1; (case k1 => walk_at "ev"))
    | exact ea_nil
    | (refine' ea_cons ?k1 ?k2; (case k1 => walk_at "ev"); (case k2 => walk_at "ev")))
local macro_rules
  | `(tactic| walk_at "sp") => `(tactic| first | exact spR_go (by assumption) | exact spExc_go (by assumption))
section
variable {P : Program} {w : World} {K : PySem.W.Frag} {mg : Str → Option Value} {base : Heap}
theorem sc_Rules_told : FnScope ["self", "members"] ["self"] d_Rules_told.scope := ⟨rfl, rfl, rfl, by decide +kernel, rfl, by decide +kernel, by decide +kernel⟩
theorem ok_Rules_told (T : Tx w K mg) : FnOk P w K mg base CX0 3 (He.ma K (He.ga K "Rules") "told") (fdOf K (He.ma K (He.ga K "Rules") "told")) ["self"] (spV K fun r => gv (rulesPlain r)) := by
  refine mkOk T.F_Rules_told ⟨rfl, rfl⟩ sc_Rules_told (fun vs H Q E h => ?_) (fun cdv A outer s H vs Q E hr h => ⟨_, (pss_cons (ps_set (i := 1) sc_Rules_told.nd rfl (Or.inl rfl) (pe_lst (pa_cons (pe_tup (pa_cons pe_str (pa_cons (pe_fld (pv 0) rfl) pa_nil))) (pa_cons (pe_tup (pa_cons pe_str (pa_cons (pe_fld (pv 0) rfl) pa_nil))) (pa_cons (pe_tup (pa_cons pe_str (pa_cons (pe_fld (pv 0) rfl) pa_nil))) (pa_cons (pe_tup (pa_cons pe_str (pa_cons (pe_fld (pv 0) rfl) pa_nil))) pa_nil)))))) (pss_cons (ps_set (i := 1) sc_Rules_told.nd rfl (Or.inl rfl) (pe_op op_cat (pv 1) (pe_lst (pa_cons (pe_tup (pa_cons pe_str (pa_cons (pe_fld (pv 0) rfl) pa_nil))) (pa_cons (pe_tup (pa_cons pe_str (pa_cons (pe_fld (pv 0) rfl) pa_nil))) (pa_cons (pe_tup (pa_cons pe_str (pa_cons (pe_fld (pv 0) rfl) pa_nil))) pa_nil)))))) (pss_one (ps_ret (pe_make T.k_Record (ok_Record_init T) (hr.mono (by decide)) rfl T.g_Record T.B_Record_init .nil pass0 (pa_cons (pe_op op_cat (pv 1) (pe_lst (pa_cons (pe_tup (pa_cons pe_str (pa_cons (pe_fld (pv 0) rfl) pa_nil))) (pa_cons (pe_tup (pa_cons pe_str (pa_cons (pe_fld (pv 0) rfl) pa_nil))) (pa_cons (pe_tup (pa_cons pe_str (pa_cons (pe_fld (pv 0) rfl) pa_nil))) pa_nil))))) pa_nil)))))), ?_⟩)
  · (repeat (first | exact congrArg List.length h.1 | obtain ⟨_, h⟩ := h))
  · obtain ⟨a, r, rfl, hr0, q⟩ := h
    obtain ⟨dx, ha⟩ := at_ins hr0
    replace q : ∀ v H', Ex H H' → ValAt K H' v (.record [(us "owners", .int r.owners), (us "delay", .int r.delay), (us "life", gv (natOrNull r.life)), (us "number", gv (natOrNull r.number)), (us "grant", .int r.grant), (us "session", gv (natOrNull r.session)), (us "bound", .bool r.bound), (us "near", .bool r.near), (us "hello", .bool r.hello), (us "once", .bool r.once)]) → Q v H' := q
    refine pr_asgG (F := H) (P := fun v H => ∃ m ts, v = .ref m ∧ H m = some (.lst ts) ∧ EntsAt K H ts [(us "owners", .int r.owners), (us "delay", .int r.delay), (us "life", gv (natOrNull r.life)), (us "number", gv (natOrNull r.number))]) ?_ (fun v H1 x1 hv => ?_) H (Ex.refl H)
    · exact ge_lst (ges_cons (by decide +kernel) (gv_int (by walk_at "ev")) (ges_cons (by decide +kernel) (gv_int (by walk_at "ev")) (ges_cons (by decide +kernel) (gv_opt (by walk_at "ev")) (ges_cons (by decide +kernel) (gv_opt (by walk_at "ev")) ges_nil)))) rfl
    obtain ⟨m, ts, rfl, hm, he⟩ := hv
    have ha1 := x1 _ _ ha
    refine pr_asgG (P := fun v H => ∃ m ts, v = .ref m ∧ H m = some (.lst ts) ∧ EntsAt K H ts ([(us "owners", .int r.owners), (us "delay", .int r.delay), (us "life", gv (natOrNull r.life)), (us "number", gv (natOrNull r.number))] ++ [(us "grant", .int r.grant), (us "session", gv (natOrNull r.session)), (us "bound", .bool r.bound)])) ?_ (fun v H2 x2 hv => ?_)
    · exact ge_cat (EgE.of_var rfl hm he) (ge_lst (ges_cons (by decide +kernel) (gv_int (by walk_at "ev")) (ges_cons (by decide +kernel) (gv_opt (by walk_at "ev")) (ges_cons (by decide +kernel) (gv_bl (by walk_at "ev")) ges_nil))) rfl) (Nat.le_of_ble_eq_true rfl)
    obtain ⟨m2, ts2, rfl, hm2, he2⟩ := hv
    have ha2 := x2 _ _ ha1
    refine pr_retG (P := fun v H => ValAt K H v (.record (([(us "owners", .int r.owners), (us "delay", .int r.delay), (us "life", gv (natOrNull r.life)), (us "number", gv (natOrNull r.number))] ++ [(us "grant", .int r.grant), (us "session", gv (natOrNull r.session)), (us "bound", .bool r.bound)]) ++ [(us "near", .bool r.near), (us "hello", .bool r.hello), (us "once", .bool r.once)]))) ?_ fun v H3 x3 hv => q v H3 (x1.trans (x2.trans x3)) hv
    exact gv_record (ge_cat (EgE.of_var rfl hm2 he2) (ge_lst (ges_cons (by decide +kernel) (gv_bl (by walk_at "ev")) (ges_cons (by decide +kernel) (gv_bl (by walk_at "ev")) (ges_cons (by decide +kernel) (gv_bl (by walk_at "ev")) ges_nil))) rfl) (Nat.le_of_ble_eq_true rfl))
end
end Sl
/-! ## SlLst -/
namespace Sl
open PySem PySem.Spec PyProof.Rows L2 Evl
theorem sz10 {n : Nat} (h : n ≤ 10000000) : n ≤ sizeLine := Nat.le_trans h (by decide)
inductive All2 (P : V → V → Prop) : List V → List V → Prop
  | nil : All2 P [] []
  | cons {x y : V} {xs ys : List V} (h : P x y) (t : All2 P xs ys) : All2 P (x :: xs) (y :: ys)
theorem All2.snoc {P : V → V → Prop} {x y : V} : ∀ {xs ys : List V}, All2 P xs ys → P x y → All2 P (xs ++ [x]) (ys ++ [y])
  | _, _, .nil, h => .cons h .nil
  | _, _, .cons a t, h => .cons a (t.snoc h)
theorem All2.len {P : V → V → Prop} : ∀ {xs ys : List V}, All2 P xs ys → ys.length = xs.length
  | _, _, .nil => rfl
  | _, _, .cons _ t => congrArg Nat.succ t.len
theorem All2.imp {P R : V → V → Prop} (h : ∀ x y, P x y → R x y) : ∀ {xs ys : List V}, All2 P xs ys → All2 R xs ys
  | _, _, .nil => .nil
  | _, _, .cons a t => .cons (h _ _ a) (t.imp h)
theorem All2.map {f : V → V} : ∀ {xs ys : List V}, All2 (fun x y => y = f x) xs ys → ys = xs.map f
  | _, _, .nil => rfl
  | _, _, .cons a t => by rw [List.map_cons, a, t.map]
/-! ### what is new: the part of H that B does not have -/
def nw (B H : Hp) : Hp := fun l => match B l with
  | none => H l
  | some _ => none
theorem nw_at {B H : Hp} {l : Addr} (h : B l = none) : nw B H l = H l := by unfold nw; rw [h]
theorem nw_off {B H : Hp} {l : Addr} (h : B l ≠ none) : nw B H l = none := by
  unfold nw
  cases e : B l with
  | none => exact absurd e h
  | some o => rfl
theorem nw_some {B H : Hp} {l : Addr} {o : HO} (h : nw B H l = some o) : B l = none ∧ H l = some o := by
  unfold nw at h
  split at h
  · exact ⟨by assumption, h⟩
  · cases h
def Dom (B B' : Hp) : Prop := ∀ l, B' l = none → B l = none
theorem Dom.of {B B' : Hp} (e : Ex B B') : Dom B B' := fun l h => fresh_back e h
theorem Dom.refl (B : Hp) : Dom B B := fun _ h => h
theorem Dom.trans {B B' B'' : Hp} (h : Dom B B') (h2 : Dom B' B'') : Dom B B'' := fun l a => h l (h2 l a)
theorem nw_mono {B B' H H' : Hp} (d : Dom B B') (e : Ex H H') : Ex (nw B' H) (nw B H') := fun l o h => by
  obtain ⟨h1, h2⟩ := nw_some h
  rw [nw_at (d l h1)]
  exact e _ _ h2
theorem nw_ex {B H : Hp} : Ex (nw B H) H := fun l o h => (nw_some h).2
theorem nw_keep {B H : Hp} {p : Addr} {o : HO} (h : B p ≠ none) : nw B (upd H p o) = nw B H := funext fun l => by
  by_cases q : l = p
  · subst q
    rw [nw_off h, nw_off h]
  · unfold nw
    rw [upd_ne q]
/-- te gives something new of which P holds -/
def EgN (te : TE) (σ : L2.St) (F : Hp) (P : V → Hp → Prop) : Prop := ∀ H1, Ex F H1 → ∀ Q : VK, (∀ v H2, Ex H1 H2 → P v (nw H1 H2) → Q v H2) → te σ H1 Q
def EgNA (ta : TA) (σ : L2.St) (F : Hp) (P : List V → Hp → Prop) : Prop := ∀ H1, Ex F H1 → ∀ Q : List V → Hp → Prop, (∀ vs H2, Ex H1 H2 → P vs (nw H1 H2) → Q vs H2) → ta σ H1 Q
theorem EgN.eg {te : TE} {σ : L2.St} {F : Hp} {P : V → Hp → Prop} (h : EgN te σ F P) (m : Mo P) : Eg te σ F P := fun H1 e Q q => h H1 e Q fun v H2 e2 p => q v H2 e2 (m _ _ _ nw_ex p)
theorem EgN.mono {te : TE} {σ : L2.St} {F F' : Hp} {P : V → Hp → Prop} (e : Ex F F') (h : EgN te σ F P) : EgN te σ F' P := fun H1 a Q q => h H1 (e.trans a) Q q
theorem egn_ev {te : TE} {σ : L2.St} {F : Hp} {v : V} {P : V → Hp → Prop} (h : Ev te σ F v) (p : ∀ H, P v H) : EgN te σ F P := fun H1 e Q q => h H1 e Q fun H2 e2 => q v H2 e2 (p _)
/-- a comprehension over items that stay: what each turn puts in -/
theorem lc_items {J : It} {items : List V} {te : TE} {σ : L2.St} {vs : List Nat} {j : Nat} {F H1 : Hp} {Dl : Addr} {Qd : Hp → Prop} (P : V → V → Hp → Prop) (mo : ∀ x, Mo (P x)) (eF : Ex F H1) (hD : H1 Dl = none)
    (hgo : ∀ i H, i < items.length → Ex F H → J.go i H) (hst : ∀ H, Ex F H → J.stop items.length H) (hy : ∀ i H x H', Ex F H → J.yld i H x H' → H' = H ∧ (i < items.length → items[i]? = some x)) (hz : items.length ≤ 10000000)
    (hw : ∀ x, wipe ((wipe σ vs).set j (some x)) vs = wipe σ vs) (he : ∀ x H, x ∈ items → Ex H1 H → EgN te ((wipe σ vs).set j (some x)) H (P x))
    (hd : ∀ ys H, Ex H1 H → H Dl = some (.lst ys) → All2 (fun x y => P x y (nw (upd H1 Dl (.lst [])) H)) items ys → Qd H) :
    ∃ W : Nat → Nat → Hp → Prop, (∃ m, W 0 m (upd H1 Dl (.lst []))) ∧ ∀ i m H, W i m H →
      (J.stop i H ∧ Qd H) ∨ (J.go i H ∧ ∃ Nx : Hp → Prop, (∀ H', Nx H' → ∃ m', m' < m ∧ W (i + 1) m' H') ∧ ∀ x H', J.yld i H x H' → gName j x (wipe σ vs) H' fun σ2 H2 => wipe σ2 vs = wipe σ vs ∧ tYes σ2 H2 fun b H3 =>
        if b = true then te σ2 H3 fun y H4 => ∃ acc, H4 Dl = some (.lst acc) ∧ acc.length < sizeLine ∧ Nx (upd H4 Dl (.lst (acc ++ [y]))) else Nx H3) := by
  refine ⟨fun i m H => m = items.length - i ∧ i ≤ items.length ∧ Ex H1 H ∧ ∃ ys, H Dl = some (.lst ys) ∧ All2 (fun x y => P x y (nw (upd H1 Dl (.lst [])) H)) (items.take i) ys, ⟨items.length, rfl, Nat.zero_le _, Ex.new hD, [], upd_same, .nil⟩, ?_⟩
  rintro i m H ⟨rfl, hi, x1, ys, hl, al⟩
  rcases Nat.lt_or_ge i items.length with h | h
  · refine .inr ⟨hgo i H h (eF.trans x1), fun H' => ∃ ys, Ex H1 H' ∧ H' Dl = some (.lst ys) ∧ All2 (fun x y => P x y (nw (upd H1 Dl (.lst [])) H')) (items.take (i + 1)) ys, fun H' ⟨ys, a, b, c⟩ => ⟨items.length - (i + 1), by omega, rfl, h, a, ys, b, c⟩, fun x H' hyl => ?_⟩
    obtain ⟨rfl, hx0⟩ := hy i H x H' (eF.trans x1) hyl
    have hx := hx0 h
    have mx : x ∈ items := List.mem_of_getElem? hx
    refine ⟨hw x, ?_⟩
    refine iteT (B := True) (he x H' mx x1 H' (Ex.refl H') _ fun y H4 x4 hp => ⟨ys, x4 _ _ hl, ?_, ys ++ [y], Ex.mut (x1.trans x4) hD, upd_same, ?_⟩)
    · have h3 := al.len
      rw [List.length_take, Nat.min_eq_left hi] at h3
      exact Nat.lt_of_lt_of_le (by omega : ys.length < 10000001) (by decide)
    · have e : items.take (i + 1) = items.take i ++ [x] := by
        rw [List.take_succ, hx]
        rfl
      have dB : Dom (upd H1 Dl (.lst [])) H' := fun l hl2 => by
        by_cases q : l = Dl
        · subst q
          rw [hl] at hl2
          cases hl2
        · rw [upd_ne q]
          exact fresh_back x1 hl2
      rw [e, nw_keep (show upd H1 Dl (.lst []) Dl ≠ none by rw [upd_same]; simp)]
      exact (al.imp fun a b pab => mo a _ _ _ (nw_mono (Dom.refl _) x4) pab).snoc (mo x _ _ _ (nw_mono dB (Ex.refl _)) hp)
  · have e : i = items.length := Nat.le_antisymm hi h
    subst e
    rw [List.take_length] at al
    exact .inl ⟨hst H (eF.trans x1), hd ys H x1 hl al⟩
/-- what such a list is -/
def LstOf (P : V → V → Hp → Prop) (items : List V) (v : V) (H : Hp) : Prop := ∃ p ys, v = .ref p ∧ H p = some (.lst ys) ∧ All2 (fun x y => P x y H) items ys
section
variable {K : PySem.W.Frag} {σ : L2.St} {F : Hp} {te tl : TE} {ta : TA} {vs : List Nat} {j : Nat} {P : V → V → Hp → Prop}
theorem lst_of {items ys : List V} {H H1 : Hp} {Dl : Addr} (mo : ∀ x, Mo (P x)) (hD : H1 Dl = none) (hl : H Dl = some (.lst ys)) (al : All2 (fun x y => P x y (nw (upd H1 Dl (.lst [])) H)) items ys) : LstOf P items (.ref Dl) (nw H1 H) :=
  ⟨Dl, ys, rfl, by rw [nw_at hD]; exact hl, al.imp fun x y p => mo x _ _ _ (nw_mono (Dom.of (Ex.new hD)) (Ex.refl _)) p⟩
theorem lst_mono {items : List V} {v : V} {H H' : Hp} (mo : ∀ x, Mo (P x)) (e : Ex H H') (h : LstOf P items v H) : LstOf P items v H' := by
  obtain ⟨p, ys, a, b, c⟩ := h
  exact ⟨p, ys, a, e _ _ b, c.imp fun x y => mo x _ _ _ e⟩
/-- over a list -/
theorem egn_lcL {a : Addr} {xs : List V} (mo : ∀ x, Mo (P x)) (h : Ev tl σ F (.ref a)) (hx : SqL K F a xs) (hz : xs.length ≤ 10000000) (hw : ∀ x, wipe ((wipe σ vs).set j (some x)) vs = wipe σ vs)
    (he : ∀ x H, x ∈ xs → Ex F H → EgN te ((wipe σ vs).set j (some x)) H (P x)) : EgN (tLc (iList K tl) (gName j) tYes te vs) σ F (LstOf P xs) := fun H0 e0 Q q => h H0 e0 _ fun H1 e1 => ⟨a, rfl, ⟨xs, ex_l (e0.trans e1) hx⟩, fun Dl hD => by
  have lx : ∀ {H}, Ex F H → SqL K H a xs := fun e => ex_l e hx
  refine lc_items (items := xs) P mo (e0.trans e1) hD (fun i H hi e => ⟨xs, _, lx e, List.getElem?_eq_getElem hi⟩) (fun H e => ⟨xs, lx e, Nat.le_refl _⟩) (fun i H x H' e hy => ⟨hy.1, fun _ => hy.2 _ (lx e)⟩) hz hw (fun x H m e => he x H m ((e0.trans e1).trans e)) fun ys H e hl al => q _ _ (e1.trans e) ?_
  exact lst_mono mo (nw_mono (Dom.of e1) (Ex.refl _)) (lst_of mo hD hl al)⟩
/-- over a tuple -/
theorem egn_lcT {a : Addr} {xs : List V} (mo : ∀ x, Mo (P x)) (h : Ev tl σ F (.ref a)) (hx : SqT K F a xs) (hz : xs.length ≤ 10000000) (hw : ∀ x, wipe ((wipe σ vs).set j (some x)) vs = wipe σ vs)
    (he : ∀ x H, x ∈ xs → Ex F H → EgN te ((wipe σ vs).set j (some x)) H (P x)) : EgN (tLc (iTup K tl) (gName j) tYes te vs) σ F (LstOf P xs) := fun H0 e0 Q q => h H0 e0 _ fun H1 e1 => ⟨a, rfl, ⟨xs, ex_t (e0.trans e1) hx⟩, fun Dl hD => by
  have lx : ∀ {H}, Ex F H → SqT K H a xs := fun e => ex_t e hx
  refine lc_items (items := xs) P mo (e0.trans e1) hD (fun i H hi e => ⟨xs, _, lx e, List.getElem?_eq_getElem hi⟩) (fun H e => ⟨xs, lx e, Nat.le_refl _⟩) (fun i H x H' e hy => ⟨hy.1, fun _ => hy.2 _ (lx e)⟩) hz hw (fun x H m e => he x H m ((e0.trans e1).trans e)) fun ys H e hl al => q _ _ (e1.trans e) ?_
  exact lst_mono mo (nw_mono (Dom.of e1) (Ex.refl _)) (lst_of mo hD hl al)⟩
/-- the items of a range, of a text -/
def rngI (n : Nat) : List V := (List.range n).map fun (i : Nat) => .int (i : Int)
def strI (x : Str) : List V := x.cps.toList.map fun c => .str ⟨#[c]⟩
theorem rngI_len (n : Nat) : (rngI n).length = n := by unfold rngI; rw [List.length_map, List.length_range]
theorem egn_lcR {n : Nat} (mo : ∀ x, Mo (P x)) (h : EvA ta σ F [.int n]) (hz : n ≤ 10000000) (hw : ∀ x, wipe ((wipe σ vs).set j (some x)) vs = wipe σ vs)
    (he : ∀ (i : Nat) H, i < n → Ex F H → EgN te ((wipe σ vs).set j (some (.int i))) H (P (.int i))) : EgN (tLc (iRng1 ta) (gName j) tYes te vs) σ F (LstOf P (rngI n)) := fun H0 e0 Q q => h H0 e0 _ fun H1 e1 => ⟨n, rfl, by omega, by omega, fun Dl hD => by
  refine lc_items (items := rngI n) P mo (e0.trans e1) hD (fun i H hi e => by rw [rngI_len] at hi; exact hi) (fun H e => by rw [rngI_len]; exact Nat.le_refl _) (fun i H x H' e hy => ⟨hy.1, fun hi => ?_⟩) (by rw [rngI_len]; exact hz) hw (fun x H m e => ?_) fun ys H e hl al => q _ _ (e1.trans e) ?_
  · rw [rngI_len] at hi
    unfold rngI
    rw [List.getElem?_map, List.getElem?_range hi, hy.2]
    show some (V.int _) = some (V.int _)
    congr 2
    omega
  · obtain ⟨i, hi, rfl⟩ := List.mem_map.mp m
    exact he i H (List.mem_range.mp hi) ((e0.trans e1).trans e)
  · exact lst_mono mo (nw_mono (Dom.of e1) (Ex.refl _)) (lst_of mo hD hl al)⟩
theorem egn_lcS {x : Str} (mo : ∀ x, Mo (P x)) (h : Ev tl σ F (.str x)) (hz : x.length ≤ 10000000) (hw : ∀ x, wipe ((wipe σ vs).set j (some x)) vs = wipe σ vs)
    (he : ∀ (c : Nat) H, c ∈ x.cps.toList → Ex F H → EgN te ((wipe σ vs).set j (some (.str ⟨#[c]⟩))) H (P (.str ⟨#[c]⟩))) : EgN (tLc (iStr tl) (gName j) tYes te vs) σ F (LstOf P (strI x)) := fun H0 e0 Q q => h H0 e0 _ fun H1 e1 => ⟨x, rfl, fun Dl hD => by
  have sl : (strI x).length = x.cps.size := by unfold strI; rw [List.length_map]; simp
  refine lc_items (items := strI x) P mo (e0.trans e1) hD (fun i H hi e => by rw [sl] at hi; exact hi) (fun H e => by rw [sl]; exact Nat.le_refl _) (fun i H y H' e hy => ⟨hy.1, fun hi => ?_⟩) (by rw [sl]; exact hz) hw (fun y H m e => ?_) fun ys H e hl al => q _ _ (e1.trans e) ?_
  · obtain ⟨c, hc, rfl⟩ := hy.2
    unfold strI
    rw [List.getElem?_map, Array.getElem?_toList, hc]
    rfl
  · obtain ⟨c, hc, rfl⟩ := List.mem_map.mp m
    exact he c H hc ((e0.trans e1).trans e)
  · exact lst_mono mo (nw_mono (Dom.of e1) (Ex.refl _)) (lst_of mo hD hl al)⟩
/-- each turn's value known ahead -/
theorem moEq {f : V → V} : ∀ x, Mo fun y _ => y = f x := fun x v H H' _ h => h
theorem lstOf_map {f : V → V} {items : List V} {v : V} {H : Hp} (h : LstOf (fun x y _ => y = f x) items v H) : ∃ p, v = .ref p ∧ H p = some (.lst (items.map f)) := by
  obtain ⟨p, ys, a, b, c⟩ := h
  exact ⟨p, a, by rw [b, c.map]⟩
theorem el_egn {f : V → V} {items : List V} {ys : List V} (h : EgN te σ F (LstOf (fun x y _ => y = f x) items)) (e : items.map f = ys) : EvL te σ F ys := fun H1 x Q q => h H1 x Q fun v H2 x2 p => by
  obtain ⟨a, rfl, ha⟩ := lstOf_map p
  obtain ⟨h1, h2⟩ := nw_some ha
  exact q a H2 h1 x2 (by rw [h2, e])
end
end Sl
/-! ## SlLet -/
namespace Sl
open PySem PySem.Spec PyProof.Rows L2 Evl
/-! ### octets in lists -/
def bytesV (l : List UInt8) : List V := l.map fun o => .int (o.toNat : Int)
theorem bytesV_len (l : List UInt8) : (bytesV l).length = l.length := by unfold bytesV; rw [List.length_map]
theorem bytesV_app (l m : List UInt8) : bytesV (l ++ m) = bytesV l ++ bytesV m := by unfold bytesV; rw [List.map_append]
def tbl : List Nat := (Str.ofString " !\"#$|&'()*+,-./0123456789:;<=>?@ABCDEFGHIJKLMNOPQRSTUVWXYZ[\\]^_ abcdefghijklmnopqrstuvwxyz{ }~").cps.toList
def letOk (o : Nat) : Bool := if o = 10 then true else
  if decide (32 ≤ o) && (decide (o ≤ 126) && !inV (.int o) [.int 96, .int 124]) then decide (atI tbl ((o : Int) - 32) = some (letr o)) else decide (letr o = 96)
theorem letOk_all : (List.range 256).all letOk = true := by decide +kernel
theorem letOk_at {o : Nat} (h : o < 256) : letOk o = true := List.all_eq_true.mp letOk_all o (List.mem_range.mpr h)
def spLet : Sp := fun vs H Q _ => ∃ o : UInt8, vs = [.int (o.toNat : Int)] ∧ ∀ H', Ex H H' → Q (.str (SX.S [letr o.toNat])) H'
/-- number_octets -/
def spNO : Sp := fun vs H Q _ => ∃ (i : Int) (m : Nat), vs = [.int i, .int m] ∧ m ≤ 8 ∧ ∀ p H', H p = none → Ex H H' → H' p = some (.lst (bytesV (RWire.low m (i % RWire.wordMost).toNat))) → Q (.ref p) H'
theorem low_map : ∀ (m n : Nat), RWire.low m n = (List.range m).map fun k => UInt8.ofNat (n / 256 ^ k)
  | 0, n => rfl
  | m + 1, n => by
    rw [List.range_succ_eq_map, List.map_cons, List.map_map]
    show UInt8.ofNat n :: RWire.low m (n / 256) = _
    rw [low_map m (n / 256)]
    congr 1
    · simp
    · refine List.map_congr_left fun k _ => ?_
      show UInt8.ofNat (n / 256 / 256 ^ k) = UInt8.ofNat (n / 256 ^ (k + 1))
      rw [Nat.div_div_eq_div_mul, Nat.pow_succ, Nat.mul_comm]
theorem byteAt (i : Int) (k : Nat) (h : k < 8) : i / 2 ^ (8 * (k : Int)).toNat % 2 ^ 8 = (((UInt8.ofNat ((i % RWire.wordMost).toNat / 256 ^ k)).toNat : Nat) : Int) := by
  have e1 : (UInt8.ofNat ((i % RWire.wordMost).toNat / 256 ^ k)).toNat = (i % RWire.wordMost).toNat / 256 ^ k % 256 := UInt8.toNat_ofNat'
  rw [e1]
  have e2 : (RWire.wordMost : Int) = 18446744073709551616 := rfl
  rw [e2]
  match k, h with
  | 0, _ => show i / 1 % 256 = (((i % 18446744073709551616).toNat / 1 % 256 : Nat) : Int); omega
  | 1, _ => show i / 256 % 256 = (((i % 18446744073709551616).toNat / 256 % 256 : Nat) : Int); omega
  | 2, _ => show i / 65536 % 256 = (((i % 18446744073709551616).toNat / 65536 % 256 : Nat) : Int); omega
  | 3, _ => show i / 16777216 % 256 = (((i % 18446744073709551616).toNat / 16777216 % 256 : Nat) : Int); omega
  | 4, _ => show i / 4294967296 % 256 = (((i % 18446744073709551616).toNat / 4294967296 % 256 : Nat) : Int); omega
  | 5, _ => show i / 1099511627776 % 256 = (((i % 18446744073709551616).toNat / 1099511627776 % 256 : Nat) : Int); omega
  | 6, _ => show i / 281474976710656 % 256 = (((i % 18446744073709551616).toNat / 281474976710656 % 256 : Nat) : Int); omega
  | 7, _ => show i / 72057594037927936 % 256 = (((i % 18446744073709551616).toNat / 72057594037927936 % 256 : Nat) : Int); omega
/-- the octets of a text of plain signs -/
def backC (c : Nat) : Nat := if c = 124 then 37 else c
theorem back_letr {o : UInt8} (h : letr o.toNat ≠ 96) : backC (letr o.toNat) = o.toNat := by
  have := letr_cases o.toNat
  unfold backC
  split <;> omega
def strF (v : V) : V := match v with
  | .str s => .int (backC (s.cps.getD 0 0) : Nat)
  | _ => .non
def spOI : Sp := fun vs H Q _ => ∃ u : List UInt8, vs = [.str (enc u)] ∧ isPlain u = true ∧ u.length ≤ 9000000 ∧ ∀ p H', H p = none → Ex H H' → H' p = some (.lst (bytesV u)) → Q (.ref p) H'
def spTO : Sp := fun vs H Q _ => ∃ u : List UInt8, vs = [.str (enc u)] ∧ isPlain u = true ∧ u.length ≤ 9000000 ∧ ∀ p H', H p = none → Ex H H' → H' p = some (.lst (bytesV (RWire.writeText u))) → Q (.ref p) H'
def spTxt (K : PySem.W.Frag) : Sp := fun vs H Q _ => ∃ (a : Addr) (u : List UInt8), vs = [.ref a] ∧ SqL K H a (bytesV u) ∧ u.length ≤ 100000 ∧ ∀ H', Ex H H' → Q (.str (enc u)) H'
theorem enc_plain {u : List UInt8} (h : isPlain u = true) : enc u = SX.S (u.map fun o => letr o.toNat) := by unfold enc codesOf; rw [if_pos h]
theorem enc_mark {u : List UInt8} (h : isPlain u = false) : enc u = SX.S (96 :: u.flatMap fun o => [hexd (o.toNat / 16), hexd (o.toNat % 16)]) := by unfold enc codesOf; rw [if_neg (by rw [h]; decide)]
theorem plain_at {u : List UInt8} (h : isPlain u = true) {o : UInt8} (ho : o ∈ u) : letr o.toNat ≠ 96 := by
  have := List.all_eq_true.mp h o ho
  simpa using this
section
variable {σ : L2.St} {F : Hp} {ta tb : TE} {E : XK}
theorem el_catV {xs ys : List V} (ha : EvL ta σ F xs) (hb : EvL tb σ F ys) (hz : xs.length + ys.length ≤ 10000000) : EvL (tOp rCat ta tb) σ F (xs ++ ys) := fun H1 e Q q =>
  ha H1 e _ fun a H2 na e2 h2 => hb H2 (e.trans e2) _ fun b H3 nb e3 h3 => ⟨a, b, xs, ys, rfl, rfl, e3 _ _ h2, h3, sz10 hz, fun p hp => q p _ (fresh_back (e2.trans e3) hp) ((e2.trans e3).trans (Ex.new hp)) upd_same⟩
theorem el_catR {a : Addr} {xs ys : List V} (ha : EvL ta σ F xs) (hb : Ev tb σ F (.ref a)) (h : F a = some (.lst ys)) (hz : xs.length + ys.length ≤ 10000000) : EvL (tOp rCat ta tb) σ F (xs ++ ys) := fun H1 e Q q =>
  ha H1 e _ fun p H2 np e2 h2 => hb H2 (e.trans e2) _ fun H3 e3 => ⟨p, a, xs, ys, rfl, rfl, e3 _ _ h2, e3 _ _ (e2 _ _ (e _ _ h)), sz10 hz, fun r hr => q r _ (fresh_back (e2.trans e3) hr) ((e2.trans e3).trans (Ex.new hr)) upd_same⟩
theorem el_no {i : Int} {m : Nat} (ha : Ev ta σ F (.int i)) (hb : Ev tb σ F (.int m)) (h : m ≤ 8) : EvL (tCall spNO [] E (tCons ta (tCons tb tNil))) σ F (bytesV (RWire.low m (i % RWire.wordMost).toNat)) := fun H1 e Q q =>
  ha H1 e _ fun H2 e2 => hb H2 (e.trans e2) _ fun H3 e3 => ⟨i, m, rfl, h, fun p H4 hp e4 h4 => q p H4 (fresh_back (e2.trans e3) hp) ((e2.trans e3).trans e4) h4⟩
theorem el_oi {u : List UInt8} (ha : Ev ta σ F (.str (enc u))) (h : isPlain u = true) (hz : u.length ≤ 9000000) : EvL (tCall spOI [] E (tCons ta tNil)) σ F (bytesV u) := fun H1 e Q q =>
  ha H1 e _ fun H2 e2 => ⟨u, rfl, h, hz, fun p H4 hp e4 h4 => q p H4 (fresh_back e2 hp) (e2.trans e4) h4⟩
theorem el_to {u : List UInt8} (ha : Ev ta σ F (.str (enc u))) (h : isPlain u = true) (hz : u.length ≤ 9000000) : EvL (tCall spTO [] E (tCons ta tNil)) σ F (bytesV (RWire.writeText u)) := fun H1 e Q q =>
  ha H1 e _ fun H2 e2 => ⟨u, rfl, h, hz, fun p H4 hp e4 h4 => q p H4 (fresh_back e2 hp) (e2.trans e4) h4⟩
theorem ev_len2 {K : PySem.W.Frag} {a : Addr} {xs : List V} (ha : Ev ta σ F (.ref a)) (h : SqL K F a xs) : Ev (tCB (fun xs H Q => ∃ x n, xs = [x] ∧ LenV K x H n ∧ Q (.int n) H) (tCons ta tNil)) σ F (.int xs.length) := fun H1 e Q q =>
  ha H1 e _ fun H2 e2 => ⟨.ref a, xs.length, rfl, .inl ⟨xs, ex_l (e.trans e2) h, rfl⟩, q H2 e2⟩
theorem ev_len2T {K : PySem.W.Frag} {a : Addr} {xs : List V} (ha : Ev ta σ F (.ref a)) (h : SqT K F a xs) : Ev (tCB (fun xs H Q => ∃ x n, xs = [x] ∧ LenV K x H n ∧ Q (.int n) H) (tCons ta tNil)) σ F (.int xs.length) := fun H1 e Q q =>
  ha H1 e _ fun H2 e2 => ⟨.ref a, xs.length, rfl, .inr ⟨xs, ex_t (e.trans e2) h, rfl⟩, q H2 e2⟩
theorem count_low {n : Nat} (h : n ≤ 10000000) : RWire.low 4 ((n : Int) % RWire.wordMost).toNat = RWire.writeCount n := by
  have e : ((n : Int) % RWire.wordMost).toNat = n := by
    have e2 : (RWire.wordMost : Int) = 18446744073709551616 := rfl
    rw [e2]; omega
  rw [e]; rfl
theorem join0 : ∀ ys : List (List Nat), TL.joinL [] ys = ys.flatten
  | [] => rfl
  | [p] => (List.append_nil p).symm
  | p :: q :: r => by
    show p ++ ([] ++ TL.joinL [] (q :: r)) = _
    rw [join0 (q :: r)]
    rfl
end
local macro_rules
  | `(tactic| walk_at "ev") => `(tactic| first
    | exact ev_c
    | exact ev_var rfl
    | (refine' ev_fld ?k1 ?k2 ?k3 ?k4 ?k5; (case k1 => walk_at "ev"); (case k2 => assumption); (case k3 => exact Tx.cl (by assumption) rfl); (case k4 => exact Tx.na (by assumption) rfl); (case k5 => rfl))
    | (refine' ev_meth ?k1 ?k2 ?k3 ?k4 ?k5; (case k1 => walk_at "ev"); (case k2 => assumption); (case k3 => rfl); (case k4 => walk_at "ev"); (case k5 => walk_at "sp"))
    | (refine' ev_callG ?k1 ?k2; (case k1 => walk_at "ev"); (case k2 => walk_at "sp"))
    | (refine' ev_isN ?k1; (case k1 => walk_at "ev"))
    | (refine' ev_notN ?k1; (case k1 => walk_at "ev"))
    | (refine' ev_int ?k1 ?k2; (case k1 => walk_at "ev"); (case k2 => walk_at "ev"))
    | (refine' ev_sc ?k1 ?k2 ?k3; (case k1 => walk_at "ev"); (case k2 => walk_at "ev"); (case k3 => rfl))
    | (refine' ev_scn ?k1 ?k2 ?k3; (case k1 => walk_at "ev"); (case k2 => walk_at "ev"); (case k3 => rfl))
    | (refine' ev_notV ?k1; (case k1 => walk_at "ev"))
    | (refine' ev_andV ?k1 ?k2; (case k1 => walk_at "ev"); (case k2 => intro _; walk_at "ev"))
    | (refine' ev_orV ?k1 ?k2; (case k1 => walk_at "ev"); (case k2 => intro _; walk_at "ev"))
    | (refine' et_test ?k1; (case k1 => walk_at "ev"))
    | (refine' et_B ?k1; (case k1 => walk_at "ev"))
    | (refine' et_and ?k1 ?k2; (case k1 => walk_at "ev"); (case k2 => intro _; walk_at "ev"))
    | (refine' et_or ?k1 ?k2; (case k1 => walk_at "ev"); (case k2 => intro _; walk_at "ev"))
    | (refine' et_not ?k1; (case k1 => walk_at "ev"))
    | exact ea_nil
    | (refine' ea_cons ?k1 ?k2; (case k1 => walk_at "ev"); (case k2 => walk_at "ev")))
local macro_rules
  | `(tactic| walk_at "sp") => `(tactic| first | exact spR_go (by assumption) | exact spExc_go (by assumption))
section
variable {P : Program} {w : World} {K : PySem.W.Frag} {mg : Str → Option Value} {base : Heap}
theorem sc_letter_of : FnScope ["octet"] ["octet"] d_letter_of.scope := ⟨rfl, rfl, rfl, by decide +kernel, rfl, by decide +kernel, by decide +kernel⟩
theorem ok_letter_of (T : Tx w K mg) : FnOk P w K mg base CX0 1 (He.ga K "letter_of") (fdOf K (He.ga K "letter_of")) ["octet"] (spLet) := by
  refine mkOk T.F_letter_of ⟨rfl, rfl⟩ sc_letter_of (fun vs H Q E h => ?_) (fun cdv A outer s H vs Q E hr h => ⟨_, (pss_cons (ps_if (pt_cmpR op_eq (pv 0) (pe_gc rfl T.i_LINE_END) (nomark _)) (pss_one (ps_ret pe_str)) pss_nil) (pss_one (ps_ret (pe_ifExp (PW.pt (pw_and (pt_chain op_le op_le (pe_gc rfl T.i_FIRST) (pv 0) (pe_gc rfl T.i_LAST)) (pw_and1 (pt_cmpR op_notIn_seq (pv 0) (pe_glob (v := .ref (He.ga K "NOT_PLAIN")) rfl T.g_NOT_PLAIN rfl) rfl)))) (pe_ix ix_str (pe_gc rfl T.s_TABLE) (pe_op op_sub (pv 0) (pe_gc rfl T.i_FIRST)) (fun _ _ => rfl)) (pe_gc rfl T.s_MARK))))), ?_⟩)
  · (repeat (first | exact congrArg List.length h.1 | obtain ⟨_, h⟩ := h))
  · obtain ⟨o, rfl, q⟩ := h
    have ok := letOk_at (o := o.toNat) (by have := o.toNat_lt; omega)
    unfold letOk at ok
    refine pr_when (F := H) (b := decide (o.toNat = 10)) (et_is (et_B (ev_sc (ev_var rfl) ev_c rfl)) ?_) (fun hb => pr_ret ev_c fun H' e => ?_) (fun hb => ?_) H (Ex.refl H)
    · exact decide_eq_decide.mpr ⟨fun z => by injection z with z; omega, fun z => by rw [z]; rfl⟩
    · have e1 := of_decide_eq_true hb
      have e2 : letr o.toNat = 10 := by rw [e1]; rfl
      have z := q H' e
      rw [e2] at z
      exact z
    · have e1 := of_decide_eq_false hb
      rw [if_neg e1] at ok
      refine pr_ret (v := .str (SX.S [letr o.toNat])) ?_ q
      have hn : Ev (tOp (rIn K true) (tVar 0) (tC (.ref (He.ga K "NOT_PLAIN")))) [some (.int (o.toNat : Int))] H (.bl (!inV (.int o.toNat) [.int 96, .int 124])) := ev_op (ev_var rfl) ev_c (rv_niT (He.tupB_ok T.tups.1 _) rfl rfl)
      have ht : EvT (tAnd (tB (tChain (rI0 fun i j => .bl (decide (i ≤ j))) (rI0 fun i j => .bl (decide (i ≤ j))) (tC (.int 32)) (tVar 0) (tC (.int 126)))) (tB (tOp (rIn K true) (tVar 0) (tC (.ref (He.ga K "NOT_PLAIN")))))) [some (.int (o.toNat : Int))] H
          ((decide ((32 : Int) ≤ (o.toNat : Int)) && decide ((o.toNat : Int) ≤ 126)) && !inV (.int o.toNat) [.int 96, .int 124]) := et_and (et_B (ev_chain ev_c (ev_var rfl) ev_c)) fun _ => et_B hn
      refine ev_if (b := decide (32 ≤ o.toNat) && (decide (o.toNat ≤ 126) && !inV (.int o.toNat) [.int 96, .int 124])) (et_is ht ?_) (fun hc => ?_) fun hc => ?_
      · rw [Bool.and_assoc]
        congr 1
        · exact decide_eq_decide.mpr (by omega)
        · congr 1
          exact decide_eq_decide.mpr (by omega)
      · rw [if_pos hc] at ok
        exact ev_op ev_c (ev_int (g := fun i j => .int (i - j)) (ev_var rfl) ev_c) (rv_ixS (by decide +kernel) (of_decide_eq_true ok))
      · rw [if_neg (by rw [hc]; decide)] at ok
        rw [of_decide_eq_true ok]
        exact ev_c
theorem sc_number_octets : FnScope ["number", "many", "k"] ["number", "many"] d_number_octets.scope := ⟨rfl, rfl, rfl, by decide +kernel, rfl, by decide +kernel, by decide +kernel⟩
theorem ok_number_octets (T : Tx w K mg) : FnOk P w K mg base CX0 1 (He.ga K "number_octets") (fdOf K (He.ga K "number_octets")) ["number", "many"] (spNO) := by
  refine mkOk T.F_number_octets ⟨rfl, rfl⟩ sc_number_octets (fun vs H Q E h => ?_) (fun cdv A outer s H vs Q E hr h => ⟨_, (pss_one (ps_ret (pe_lc (own := [("k", 2)]) (g := gName 2) (tt := tYes) (by rfl) sc_number_octets.nd (pi_range1 (by rfl) T.f_range (pa_cons (pv 1) pa_nil)) (blkOk_by (own := [("k", 2)]) (N := ["number", "many", "k"]) (sc := d_number_octets.scope) (by decide +kernel)) (fun _ _ _ _ _ => pg_name (i := 2) sc_number_octets.nd rfl (Or.inl rfl)) (fun _ _ _ _ _ => pts_nil) (fun _ _ _ _ _ => (pe_op op_andM (pe_op op_shr (pv 0) (pe_op op_mul pe_int (pv 2))) pe_int))))), ?_⟩)
  · (repeat (first | exact congrArg List.length h.1 | obtain ⟨_, h⟩ := h))
  · obtain ⟨i, m, rfl, hm, q⟩ := h
    have key : EvL (tLc (iRng1 (tCons (tVar 1) tNil)) (gName 2) tYes (tOp (fun x y H Q => ∃ (i : Int) (k : Nat), x = .int i ∧ y = .int (2 ^ k - 1) ∧ Q (.int (i % 2 ^ k)) H) (tOp (rI (fun _ j => 0 ≤ j) fun i j => .int (i / 2 ^ j.toNat)) (tVar 0) (tOp (rI CMul fun i j => .int (i * j)) (tC (.int 8)) (tVar 2))) (tC (.int 255))) [2]) [some (.int i), some (.int m), none] H (bytesV (RWire.low m (i % RWire.wordMost).toNat)) := by
      refine el_egn (f := fun v => match v with
        | .int k => .int (i / 2 ^ (8 * k).toNat % 2 ^ 8)
        | _ => .non) (egn_lcR moEq (ea_cons (ev_var rfl) ea_nil) (by omega) (fun x => rfl) fun k H' hk x => egn_ev (v := .int (i / 2 ^ (8 * (k : Int)).toNat % 2 ^ 8)) (ev_op (ev_op (ev_var rfl) (ev_op ev_c (ev_var rfl) (rv_I (.inl ⟨by decide, by decide⟩))) (rv_I (by omega))) ev_c fun H1 _ _ q => ⟨_, 8, rfl, rfl, q H1 (Ex.refl H1)⟩) fun _ => rfl) ?_
      rw [low_map]
      unfold rngI bytesV
      rw [List.map_map, List.map_map]
      refine List.map_congr_left fun k hk => ?_
      have hk2 := List.mem_range.mp hk
      exact congrArg V.int (byteAt i k (by omega))
    exact s_retL key q
theorem sc_octets_in : FnScope ["text", "letter", "at"] ["text"] d_octets_in.scope := ⟨rfl, rfl, rfl, by decide +kernel, rfl, by decide +kernel, by decide +kernel⟩
theorem ok_octets_in (T : Tx w K mg) : FnOk P w K mg base CX0 1 (He.ga K "octets_in") (fdOf K (He.ga K "octets_in")) ["text"] (spOI) := by
  refine mkOk T.F_octets_in ⟨rfl, rfl⟩ sc_octets_in (fun vs H Q E h => ?_) (fun cdv A outer s H vs Q E hr h => ⟨_, (pss_cons (ps_if (pt_cmpR op_eq (pe_slice sl_str (pv 0) po_none (po_some pe_int)) (pe_gc rfl T.s_MARK) (nomark _)) pss_never pss_nil) (pss_one (ps_ret (pe_lc (own := [("letter", 1)]) (g := gName 1) (tt := tYes) (by rfl) sc_octets_in.nd (pi_str (pv 0)) (blkOk_by (own := [("letter", 1)]) (N := ["text", "letter", "at"]) (sc := d_octets_in.scope) (by decide +kernel)) (fun _ _ _ _ _ => pg_name (i := 1) sc_octets_in.nd rfl (Or.inl rfl)) (fun _ _ _ _ _ => pts_nil) (fun _ _ _ _ _ => (pe_ifExp (pt_cmpR op_eq (pv 1) (pe_gc rfl T.s_PERCENT_LETTER) (nomark _)) (pe_gc rfl T.i_PERCENT) (pe_callB call_ord (by rfl) T.f_ord (by decide +kernel) (pa_cons (pv 1) pa_nil)))))))), ?_⟩)
  · (repeat (first | exact congrArg List.length h.1 | obtain ⟨_, h⟩ := h))
  · obtain ⟨u, rfl, hp, hz, q⟩ := h
    have he := enc_plain hp
    have hl : (enc u).length = u.length := by rw [he, SX.S_len, List.length_map]
    refine pr_when (F := H) (b := false) (et_is (ev_strs (i := cutS (enc u) none (some 1)) (j := "`") ?_ ev_c) ?_) (fun hb => Bool.noConfusion hb) (fun _ => ?_) H (Ex.refl H)
    · exact fun H1 x1 Q1 q1 => ⟨_, rfl, eo_none H1 (Ex.refl H1) _ fun H2 x2 => eo_some ev_c H2 (Ex.refl H2) _ fun H3 x3 => ⟨_, rfl, sz10 (by rw [hl]; omega), q1 H3 (x2.trans x3)⟩⟩
    · refine decide_eq_false fun z => ?_
      have z1 : (cutS (enc u) none (some 1)).cps.toList = [96] := by rw [z]; decide +kernel
      unfold cutS at z1
      rw [he] at z1
      cases u with
      | nil => simp at z1
      | cons o r =>
        have z3 : letr o.toNat = 96 := by
          have z2 : ((letr o.toNat :: r.map fun o => letr o.toNat).take 1) = [96] := by
            simpa [HT.sIx, SX.S_len] using z1
          simpa using z2
        exact plain_at hp (List.mem_cons_self ..) z3
    · intro H0 x0
      refine s_retL (xs := bytesV u) ?_ fun p H' n e h => q p H' (fresh_back x0 n) (x0.trans e) h
      refine el_egn (f := strF) (items := strI (enc u)) (egn_lcS moEq (ev_var rfl) (by rw [hl]; omega) (fun x => rfl) fun c H' hc x => ?_) ?_
      · refine egn_ev (v := .int (backC c : Nat)) ?_ fun _ => rfl
        refine ev_if (b := decide (c = 124)) (et_is (ev_strs (i := ⟨#[c]⟩) (j := "|") (ev_var rfl) ev_c) (decide_eq_decide.mpr ⟨fun z => ?_, fun z => by rw [z]; decide +kernel⟩)) (fun hb => ?_) fun hb => ?_
        · have z1 : (⟨#[c]⟩ : Str).cps.toList = [124] := by rw [z]; decide +kernel
          simpa using z1
        · have e1 : backC c = 37 := by unfold backC; rw [if_pos (of_decide_eq_true hb)]
          rw [e1]
          exact ev_c
        · have e1 : backC c = c := by unfold backC; rw [if_neg (of_decide_eq_false hb)]
          rw [e1]
          exact ev_cb (vs := [.str ⟨#[c]⟩]) (ea_cons (ev_var rfl) ea_nil) fun H1 _ Q1 q1 => ⟨_, rfl, rfl, q1 H1 (Ex.refl H1)⟩
      · unfold strI bytesV
        rw [he, List.map_map]
        show ((u.map fun o => letr o.toNat).toArray.toList).map _ = _
        rw [List.toList_toArray, List.map_map]
        refine List.map_congr_left fun o ho => ?_
        show V.int ((backC (letr o.toNat) : Nat) : Int) = _
        rw [back_letr (plain_at hp ho)]
theorem sc_text_octets : FnScope ["text", "found"] ["text"] d_text_octets.scope := ⟨rfl, rfl, rfl, by decide +kernel, rfl, by decide +kernel, by decide +kernel⟩
theorem ok_text_octets (T : Tx w K mg) : FnOk P w K mg base CX0 2 (He.ga K "text_octets") (fdOf K (He.ga K "text_octets")) ["text"] (spTO) := by
  refine mkOk T.F_text_octets ⟨rfl, rfl⟩ sc_text_octets (fun vs H Q E h => ?_) (fun cdv A outer s H vs Q E hr h => ⟨_, (pss_cons (ps_set (i := 1) sc_text_octets.nd rfl (Or.inl rfl) (pe_call (ok_octets_in T) (hr.mono (by decide)) rfl T.g_octets_in T.kp_octets_in T.B_octets_in .nil pass0 (pa_cons (pv 0) pa_nil))) (pss_one (ps_ret (pe_op op_cat (pe_call (ok_number_octets T) (hr.mono (by decide)) rfl T.g_number_octets T.kp_number_octets T.B_number_octets .nil pass0 (pa_cons (pe_callB call_len (by rfl) T.f_len (by decide +kernel) (pa_cons (pv 1) pa_nil)) (pa_cons pe_int pa_nil))) (pv 1))))), ?_⟩)
  · (repeat (first | exact congrArg List.length h.1 | obtain ⟨_, h⟩ := h))
  · obtain ⟨u, rfl, hp, hz, q⟩ := h
    refine q_asgL (H := H) (el_oi (ev_var rfl) hp hz) fun a H1 na x1 ha => ?_
    refine s_retL (xs := bytesV (RWire.writeText u)) ?_ fun p H' n e h => q p H' (fresh_back x1 n) (x1.trans e) h
    have e1 : bytesV (RWire.writeText u) = bytesV (RWire.low 4 (((bytesV u).length : Int) % RWire.wordMost).toNat) ++ bytesV u := by
      rw [bytesV_len, count_low (by omega), ← bytesV_app]; rfl
    rw [e1]
    refine el_catR (el_no (m := 4) (ev_len2 (ev_var rfl) (sq_of ha)) ev_c (by decide)) (ev_var rfl) ha ?_
    rw [bytesV_len, bytesV_len]
    show (RWire.low 4 _).length + u.length ≤ _
    rw [low_map, List.length_map, List.length_range]
    omega
end
end Sl
/-! ## SlRd -/
namespace Sl
open PySem PySem.Spec PyProof.Rows L2 Evl
/-! ### the reader -/
/-- all but r kept -/
abbrev Bt (r : Addr) (H H' : Hp) : Prop := Ex (L2.del H r) H'
theorem Bt.of {r : Addr} {H H' : Hp} (e : Ex H H') : Bt r H H' := fun b o h => by
  by_cases q : b = r
  · rw [q, L2.del_same] at h; cases h
  · rw [L2.del_ne q] at h; exact e b o h
theorem Bt.trans {r : Addr} {H H' H2 : Hp} (e : Bt r H H') (e2 : Bt r H' H2) : Bt r H H2 := fun b o h => by
  by_cases q : b = r
  · rw [q, L2.del_same] at h; cases h
  · exact e2 b o (by rw [L2.del_ne q]; exact e b o h)
theorem Bt.at {r b : Addr} {H H' : Hp} {o : HO} (e : Bt r H H') (q : b ≠ r) (h : H b = some o) : H' b = some o := e b o (by rw [L2.del_ne q]; exact h)
theorem Bt.fresh {r p : Addr} {H H' : Hp} (e : Bt r H H') (hp : H' p = none) (hr : H' r ≠ none) : H p = none := by
  cases h : H p with
  | none => rfl
  | some o =>
    have q : p ≠ r := fun z => hr (by rw [← z]; exact hp)
    rw [e.at q h] at hp
    cases hp
theorem Bt.upd {r : Addr} {H H' : Hp} {o : HO} (e : Bt r H H') : Bt r H (upd H' r o) := fun b u h => by
  by_cases q : b = r
  · rw [q, L2.del_same] at h; cases h
  · rw [upd_ne q]; exact e b u h
/-- of what F knows without r all is kept -/
theorem Bt.ex {r : Addr} {F H H' : Hp} (e : Bt r H H') (x : Ex F H) (hr : F r = none) : Ex F H' := fun b o h => e.at (ne_of_none h hr) (x b o h)
def RdAt (K : PySem.W.Frag) (H : Hp) (r b : Addr) (rest : List UInt8) : Prop := ∃ (dx : Addr) (l : List UInt8) (n : Nat), H r = some (.ins (He.ga K "Reader") dx [("octets", .ref b), ("at", .int n)]) ∧ H b = some (.lst (bytesV l)) ∧ b ≠ r ∧ n ≤ l.length ∧ l.length ≤ 100000 ∧ l.drop n = rest
theorem RdAt.mono {K : PySem.W.Frag} {H H' : Hp} {r b : Addr} {rest : List UInt8} (e : Ex H H') (h : RdAt K H r b rest) : RdAt K H' r b rest := by
  obtain ⟨dx, l, n, h1, h2, h3⟩ := h
  exact ⟨dx, l, n, e _ _ h1, e _ _ h2, h3⟩
theorem RdAt.some {K : PySem.W.Frag} {H : Hp} {r b : Addr} {rest : List UInt8} (h : RdAt K H r b rest) : H r ≠ none := by
  obtain ⟨dx, l, n, h1, h2, h3⟩ := h
  rw [h1]; simp
theorem front_eq : ∀ {k : Nat} {l x y : List UInt8}, RWire.front k l = some (x, y) → k ≤ l.length ∧ x = l.take k ∧ y = l.drop k
  | 0, l, x, y, h => by
    injection h with h
    injection h with h1 h2
    exact ⟨Nat.zero_le _, h1.symm, h2.symm⟩
  | k + 1, [], x, y, h => by cases h
  | k + 1, a :: l, x, y, h => by
    have h0 : (match RWire.front k l with | none => none | some p => some (a :: p.1, p.2)) = some (x, y) := h
    cases e : RWire.front k l with
    | none => rw [e] at h0; cases h0
    | some p =>
      rw [e] at h0
      injection h0 with h0
      injection h0 with h1 h2
      obtain ⟨h3, h4, h5⟩ := front_eq (x := p.1) (y := p.2) e
      refine ⟨Nat.succ_le_succ h3, ?_, ?_⟩
      · rw [← h1, h4]; rfl
      · rw [← h2, h5]; rfl
def spTake (K : PySem.W.Frag) : Sp := fun vs H Q _ => ∃ (r b : Addr) (m : Nat) (rest x rest' : List UInt8), vs = [.ref r, .int m] ∧ RdAt K H r b rest ∧ RWire.front m rest = some (x, rest') ∧
  ∀ p H', H p = none → Bt r H H' → RdAt K H' r b rest' → H' p = some (.lst (bytesV x)) → Q (.ref p) H'
def spTakeN (K : PySem.W.Frag) : Sp := fun vs H Q _ => ∃ (r b : Addr) (m n : Nat) (rest rest' : List UInt8), vs = [.ref r, .int m] ∧ RdAt K H r b rest ∧ m ≤ 8 ∧ RWire.readNum m rest = some (n, rest') ∧
  ∀ H', Bt r H H' → RdAt K H' r b rest' → Q (.int n) H'
def spTakeT (K : PySem.W.Frag) : Sp := fun vs H Q _ => ∃ (r b : Addr) (u rest rest' : List UInt8), vs = [.ref r] ∧ RdAt K H r b rest ∧ RWire.readText rest = some (u, rest') ∧ ∀ H', Bt r H H' → RdAt K H' r b rest' → Q (.str (enc u)) H'
/-- values of one octet of kind -/
def plainK (k : Nat) : Bool := k == 0 || (k == 1 || (k == 2 || (k == 3 || (k == 4 || k == 6))))
def spTakeP (K : PySem.W.Frag) : Sp := fun vs H Q _ => ∃ (r b : Addr) (k : Nat) (f : RWire.Octets → Option (Val × RWire.Octets)) (x : Val) (rest rest' : List UInt8), vs = [.ref r, .int k] ∧ RdAt K H r b rest ∧ plainK k = true ∧ RWire.readKind f k rest = some (x, rest') ∧
  ∀ v H', Bt r H H' → RdAt K H' r b rest' → ValAt K (nw H H') v x → Q v H'
theorem numOf_lt : ∀ l : List UInt8, RWire.numOf l < 256 ^ l.length
  | [] => Nat.one_pos
  | a :: r => by
    have h := numOf_lt r
    have h2 := a.toNat_lt
    show a.toNat + 256 * RWire.numOf r < 256 ^ (r.length + 1)
    rw [Nat.pow_succ]
    omega
def hexOk (o : Nat) : Bool := decide (atI (Str.ofString "0123456789abcdef").cps.toList ((o : Int) / 16) = some (hexd (o / 16))) && decide (atI (Str.ofString "0123456789abcdef").cps.toList ((o : Int) % 16) = some (hexd (o % 16)))
theorem hexOk_all : (List.range 256).all hexOk = true := by decide +kernel
theorem hexOk_at {o : Nat} (h : o < 256) : hexOk o = true := List.all_eq_true.mp hexOk_all o (List.mem_range.mpr h)
theorem sum_const {α : Type} (f : α → Nat) (c : Nat) (h : ∀ a, f a = c) : ∀ l : List α, (l.map f).sum = l.length * c
  | [] => by simp
  | a :: l => by rw [List.map_cons, List.sum_cons, h, sum_const f c h l, List.length_cons, Nat.succ_mul]; omega
/-- a list with these items, new or not -/
def EvJ (te : TE) (σ : L2.St) (F : Hp) (xs : List V) : Prop := ∀ H1, Ex F H1 → ∀ Q : VK, (∀ p H2, Ex H1 H2 → H2 p = some (.lst xs) → Q (.ref p) H2) → te σ H1 Q
theorem ej_l {te : TE} {σ : L2.St} {F : Hp} {xs : List V} (h : EvL te σ F xs) : EvJ te σ F xs := fun H1 e Q q => h H1 e Q fun p H2 _ e2 h2 => q p H2 e2 h2
theorem ej_v {te : TE} {σ : L2.St} {F : Hp} {xs : List V} {a : Addr} (h : Ev te σ F (.ref a)) (ha : F a = some (.lst xs)) : EvJ te σ F xs := fun H1 e Q q => h H1 e Q fun H2 e2 => q a H2 e2 (e2 _ _ (e _ _ ha))
theorem ev_join {K : PySem.W.Frag} {σ : L2.St} {F : Hp} {te : TE} {ys : List (List Nat)} (h : EvJ te σ F (ys.map fun y => V.str (SX.S y))) (hz : (ys.map List.length).sum ≤ 10000000) :
    Ev (tM1 (fun x xs H Q => ∃ a p, ∃ ys : List Str, x = .str a ∧ xs = [.ref p] ∧ (SqL K H p (ys.map V.str) ∨ SqT K H p (ys.map V.str)) ∧ (ys.map (·.length)).sum + ys.length * a.length ≤ 16777216 ∧ Q (.str (Txt.join a ys)) H) (tC (.str "")) te) σ F (.str (SX.S ys.flatten)) := fun H1 e Q q => by
  refine ⟨⟨_, rfl⟩, h H1 e _ fun p H2 e2 hp => ⟨"", p, ys.map SX.S, rfl, rfl, .inl (sq_of (by rw [hp, List.map_map]; rfl)), ?_, ?_⟩⟩
  · rw [SX.lens]
    show (ys.map List.length).sum + _ * 0 ≤ _
    omega
  · have e3 : Txt.join (Str.ofString "") (ys.map SX.S) = SX.S ys.flatten := by
      rw [show Str.ofString "" = SX.S [] from by decide +kernel, SX.join_S, join0]
    rw [e3]
    exact q H2 e2
theorem flat_one (f : UInt8 → Nat) : ∀ u : List UInt8, (u.map fun o => [f o]).flatten = u.map f
  | [] => rfl
  | o :: r => by
    rw [List.map_cons, List.flatten_cons, flat_one f r]
    rfl
theorem ev_addsZ {σ : L2.St} {F : Hp} {ta tb : TE} {i j : Str} (ha : Ev ta σ F (.str i)) (hb : Ev tb σ F (.str j)) (hz : i.length + j.length ≤ 10000000) : Ev (tOp (fun x y H Q => ∃ i j, x = .str i ∧ y = .str j ∧ i.length + j.length ≤ sizeLine ∧ Q (.str (i ++ j)) H) ta tb) σ F (.str (i ++ j)) :=
  ev_op ha hb fun H1 _ _ q => ⟨i, j, rfl, rfl, sz10 hz, q H1 (Ex.refl H1)⟩
def spRdI (K : PySem.W.Frag) : Sp := fun vs H Q _ => ∃ (p dx : Addr) (b : V), vs = [.ref p, b] ∧ H p = some (.ins (He.ga K "Reader") dx []) ∧ ∀ H', H' p = some (.ins (He.ga K "Reader") dx [("octets", b), ("at", .int 0)]) → (∀ c o, H c = some o → c ≠ p → H' c = some o) → Q .non H'
theorem rd_meth {K : PySem.W.Frag} {H : Hp} {r b : Addr} {rest : List UInt8} (h : RdAt K H r b rest) : ∃ dx fs, H r = some (.ins (He.ga K "Reader") dx fs) ∧ ∀ m : Str, (decide (m = "octets") || decide (m = "at")) = false → fs.lookup m = none := by
  obtain ⟨dx, l, n, h1, h2, h3⟩ := h
  refine ⟨dx, _, h1, fun m hm => ?_⟩
  simp only [Bool.or_eq_false_iff, decide_eq_false_iff_not] at hm
  rw [List.lookup_cons, beq_eq_false_iff_ne.mpr hm.1, List.lookup_cons, beq_eq_false_iff_ne.mpr hm.2]
  rfl
local macro_rules
  | `(tactic| walk_at "ev") => `(tactic| first
    | exact ev_c
    | exact ev_var rfl
    | (refine' ev_fld ?k1 ?k2 ?k3 ?k4 ?k5; (case k1 => walk_at "ev"); (case k2 => assumption); (case k3 => exact Tx.cl (by assumption) rfl); (case k4 => exact Tx.na (by assumption) rfl); (case k5 => rfl))
    | (refine' ev_meth ?k1 ?k2 ?k3 ?k4 ?k5; (case k1 => walk_at "ev"); (case k2 => assumption); (case k3 => rfl); (case k4 => walk_at "ev"); (case k5 => walk_at "sp"))
    | (refine' ev_callG ?k1 ?k2; (case k1 => walk_at "ev"); (case k2 => walk_at "sp"))
    | (refine' ev_isN ?k1; (case k1 => walk_at "ev"))
    | (refine' ev_notN ?k1; (case k1 => walk_at "ev"))
    | (refine' ev_int ?k1 ?k2; (case k1 => walk_at "ev"); (case k2 => walk_at "ev"))
    | (refine' ev_sc ?k1 ?k2 ?k3; (case k1 => walk_at "ev"); (case k2 => walk_at "ev"); (case k3 => rfl))
    | (refine' ev_scn ?k1 ?k2 ?k3; (case k1 => walk_at "ev"); (case k2 => walk_at "ev"); (case k3 => rfl))
    | (refine' ev_notV ?k1; (case k1 => walk_at "ev"))
    | (refine' ev_andV ?k1 ?k2; (case k1 => walk_at "ev"); (case k2 => intro _; walk_at "ev"))
    | (refine' ev_orV ?k1 ?k2; (case k1 => walk_at "ev"); (case k2 => intro _; walk_at "ev"))
    | (refine' et_test ?k1; (case k1 => walk_at "ev"))
    | (refine' et_B ?k1; (case k1 => walk_at "ev"))
    | (refine' et_and ?k1 ?k2; (case k1 => walk_at "ev"); (case k2 => intro _; walk_at "ev"))
    | (refine' et_or ?k1 ?k2; (case k1 => walk_at "ev"); (case k2 => intro _; walk_at "ev"))
    | (refine' et_not ?k1; (case k1 => walk_at "ev"))
    | exact ea_nil
    | (refine' ea_cons ?k1 ?k2; (case k1 => walk_at "ev"); (case k2 => walk_at "ev")))
local macro_rules
  | `(tactic| walk_at "sp") => `(tactic| first | exact spR_go (by assumption) | exact spExc_go (by assumption))
section
variable {P : Program} {w : World} {K : PySem.W.Frag} {mg : Str → Option Value} {base : Heap}
theorem sc_text_of : FnScope ["octets", "letters", "octet"] ["octets"] d_text_of.scope := ⟨rfl, rfl, rfl, by decide +kernel, rfl, by decide +kernel, by decide +kernel⟩
theorem ok_text_of (T : Tx w K mg) : FnOk P w K mg base CX0 2 (He.ga K "text_of") (fdOf K (He.ga K "text_of")) ["octets"] (spTxt K) := by
  refine mkOk T.F_text_of ⟨rfl, rfl⟩ sc_text_of (fun vs H Q E h => ?_) (fun cdv A outer s H vs Q E hr h => ⟨_, (pss_cons (ps_setLc (i := 1) (own := [("octet", 2)]) (g := gName 2) (tt := tYes) (by rfl) sc_text_of.nd rfl rfl (sw_true rfl rfl rfl (by decide +kernel)) (pi_list (pv 0)) (blkOk_by (own := [("octet", 2)]) (N := ["octets", "letters", "octet"]) (sc := d_text_of.scope) (by decide +kernel)) (fun _ _ _ _ _ => pg_name (i := 2) sc_text_of.nd rfl (Or.inl rfl)) (fun _ _ _ _ _ => pts_nil) (fun _ _ _ _ _ => (pe_call (ok_letter_of T) (hr.mono (by decide)) rfl T.g_letter_of T.kp_letter_of T.B_letter_of .nil pass0 (pa_cons (pv 2) pa_nil)))) (pss_cons (ps_if (pt_cmpR op_notIn_seq (pe_gc rfl T.s_MARK) (pv 1) rfl) (pss_one (ps_ret (pe_join pe_str (pv 1)))) pss_nil) (pss_one (ps_ret (pe_op op_add_str (pe_gc rfl T.s_MARK) (pe_join pe_str (pe_lc (own := [("octet", 2)]) (g := gName 2) (tt := tYes) (by rfl) sc_text_of.nd (pi_list (pv 0)) (blkOk_by (own := [("octet", 2)]) (N := ["octets", "letters", "octet"]) (sc := d_text_of.scope) (by decide +kernel)) (fun _ _ _ _ _ => pg_name (i := 2) sc_text_of.nd rfl (Or.inl rfl)) (fun _ _ _ _ _ => pts_nil) (fun _ _ _ _ _ => (pe_op op_add_str (pe_ix ix_str (pe_gc rfl T.s_BASE) (pe_op op_fdiv (pv 2) pe_int) (fun _ _ => rfl)) (pe_ix ix_str (pe_gc rfl T.s_BASE) (pe_op op_mod (pv 2) pe_int) (fun _ _ => rfl))))))))))), ?_⟩)
  · (repeat (first | exact congrArg List.length h.1 | obtain ⟨_, h⟩ := h))
  · obtain ⟨a, u, rfl, ha, hz, q⟩ := h
    have l1 : ∀ o : UInt8, o.toNat < 256 := fun o => by have := o.toNat_lt; omega
    have el1 : EvL (tLc (iList K (tVar 0)) (gName 2) tYes (tCall spLet [] E (tCons (tVar 2) tNil)) [2]) [some (.ref a), none, none] H ((u.map fun o => [letr o.toNat]).map fun y => V.str (SX.S y)) := by
      refine el_egn (f := fun v => match v with
        | .int i => .str (SX.S [letr i.toNat])
        | _ => .non) (egn_lcL moEq (ev_var rfl) ha (by rw [bytesV_len]; omega) (fun x => rfl) fun x H' m xH => ?_) ?_
      · obtain ⟨o, ho, rfl⟩ := List.mem_map.mp m
        exact egn_ev (v := .str (SX.S [letr o.toNat])) (fun H1 x1 Q1 q1 => ⟨_, rfl, o, rfl, fun H2 x2 => q1 H2 x2⟩) fun _ => rfl
      · unfold bytesV
        rw [List.map_map, List.map_map]
        rfl
    refine q_asgL (H := H) (σ := [some (.ref a), none, none]) el1 fun p H1 np x1 hp => ?_
    have hin : inV (.str "`") ((u.map fun o => [letr o.toNat]).map fun y => V.str (SX.S y)) = !isPlain u := by
      unfold inV isPlain
      rw [List.map_map, List.any_map, List.not_all_eq_any_not]
      congr 1
      funext o
      show (SX.S [letr o.toNat] == Str.ofString "`") = !(letr o.toNat != 96)
      rw [show Str.ofString "`" = SX.S [96] from by decide +kernel, SX.S_beq]
      show ((letr o.toNat == 96) && true) = _
      rw [Bool.and_true]
      simp [bne]
    have hnot : Ev (tOp (rIn K true) (tC (.str "`")) (tVar 1)) [some (.ref a), some (.ref p), none] H1 (.bl (!inV (.str "`") ((u.map fun o => [letr o.toNat]).map fun y => V.str (SX.S y)))) := ev_op ev_c (ev_var rfl) (rv_niL (sq_of hp) rfl (by
      rw [List.all_map, List.all_map, List.all_eq_true]
      intro o _
      rfl))
    rw [hin, Bool.not_not] at hnot
    refine pr_when (F := H1) (b := isPlain u) (et_B hnot) (fun hb => ?_) (fun hb => ?_) H1 (Ex.refl H1)
    · refine pr_ret (v := .str (enc u)) ?_ fun H' e => q H' (x1.trans e)
      have e1 : enc u = SX.S (u.map fun o => [letr o.toNat]).flatten := by rw [enc_plain hb, flat_one]
      rw [e1]
      refine ev_join (ej_v (ev_var rfl) hp) ?_
      rw [List.map_map, sum_const (List.length ∘ fun o : UInt8 => [letr o.toNat]) 1 (fun _ => rfl)]
      omega
    · refine pr_ret (v := .str (enc u)) ?_ fun H' e => q H' (x1.trans e)
      have e1 : enc u = Str.ofString "`" ++ SX.S (u.map fun o => [hexd (o.toNat / 16), hexd (o.toNat % 16)]).flatten := by
        rw [enc_mark hb, show Str.ofString "`" = SX.S [96] from by decide +kernel, SX.S_cat, List.flatMap_def]
        rfl
      rw [e1]
      have lf : ((u.map fun o => [hexd (o.toNat / 16), hexd (o.toNat % 16)]).map List.length).sum ≤ 10000000 := by
        rw [List.map_map, sum_const (List.length ∘ fun o : UInt8 => [hexd (o.toNat / 16), hexd (o.toNat % 16)]) 2 (fun _ => rfl)]
        omega
      refine ev_addsZ ev_c (ev_join (ej_l (el_egn (f := fun v => match v with
        | .int i => .str (SX.S [hexd (i.toNat / 16), hexd (i.toNat % 16)])
        | _ => .non) (egn_lcL moEq (ev_var rfl) (ex_l x1 ha) (by rw [bytesV_len]; omega) (fun x => rfl) fun x H' m xH => ?_) ?_)) lf) ?_
      · obtain ⟨o, ho, rfl⟩ := List.mem_map.mp m
        have ok := hexOk_at (l1 o)
        unfold hexOk at ok
        obtain ⟨k1, k2⟩ := Bool.and_eq_true_iff.mp ok
        refine egn_ev (v := .str (SX.S [hexd (o.toNat / 16), hexd (o.toNat % 16)])) (ev_is (ev_adds (ev_op ev_c (ev_op (ev_var rfl) ev_c (rv_I ⟨by decide, by decide⟩)) (rv_ixS (by decide +kernel) (of_decide_eq_true k1))) (ev_op ev_c (ev_op (ev_var rfl) ev_c (rv_I (by decide))) (rv_ixS (by decide +kernel) (of_decide_eq_true k2))) rfl) ?_) fun _ => rfl
        rfl
      · unfold bytesV
        rw [List.map_map, List.map_map]
        rfl
      · have hl : (SX.S (u.map fun o => [hexd (o.toNat / 16), hexd (o.toNat % 16)]).flatten).length ≤ 200000 := by
          rw [SX.S_len, List.length_flatten, List.map_map, sum_const (List.length ∘ fun o : UInt8 => [hexd (o.toNat / 16), hexd (o.toNat % 16)]) 2 (fun _ => rfl)]
          omega
        have h1 : (Str.ofString "`").length = 1 := by decide +kernel
        rw [h1]
        omega
theorem sc_Reader_init : FnScope ["self", "octets"] ["self", "octets"] d_Reader_init.scope := ⟨rfl, rfl, rfl, by decide +kernel, rfl, by decide +kernel, by decide +kernel⟩
theorem ok_Reader_init (T : Tx w K mg) : FnOk P w K mg base CX0 1 (He.ma K (He.ga K "Reader") "__init__") (fdOf K (He.ma K (He.ga K "Reader") "__init__")) ["self", "octets"] (spRdI K) := by
  refine mkOk T.F_Reader_init ⟨rfl, rfl⟩ sc_Reader_init (fun vs H Q E h => ?_) (fun cdv A outer s H vs Q E hr h => ⟨_, (pss_cons (ps_fld (pv 0) (pv 1) rfl) (pss_one (ps_fld (pv 0) pe_int rfl))), ?_⟩)
  · (repeat (first | exact congrArg List.length h.1 | obtain ⟨_, h⟩ := h))
  · obtain ⟨p, dx, b, rfl, hp, q⟩ := h
    refine ⟨_, rfl, _, rfl, p, _, dx, _, rfl, hp, T.c_Reader, T.n_Reader_octets, (by show 0 < 1000; decide), ?_⟩
    refine ⟨_, rfl, p, _, dx, _, rfl, upd_same, T.c_Reader, T.n_Reader_at, (by show 1 < 1000; decide), ?_⟩
    exact q _ upd_same fun c o hc hcp => by rw [upd_ne hcp, upd_ne hcp]; exact hc
theorem sc_Reader_take : FnScope ["self", "many"] ["self", "many"] d_Reader_take.scope := ⟨rfl, rfl, rfl, by decide +kernel, rfl, by decide +kernel, by decide +kernel⟩
theorem ok_Reader_take (T : Tx w K mg) : FnOk P w K mg base CX0 4 (He.ma K (He.ga K "Reader") "take") (fdOf K (He.ma K (He.ga K "Reader") "take")) ["self", "many"] (spTake K) := by
  refine mkOk T.F_Reader_take ⟨rfl, rfl⟩ sc_Reader_take (fun vs H Q E h => ?_) (fun cdv A outer s H vs Q E hr h => ⟨_, (pss_cons (ps_if (pt_cmpR op_gt (pe_op op_add (pe_fld (pv 0) rfl) (pv 1)) (pe_callB call_len (by rfl) T.f_len (by decide +kernel) (pa_cons (pe_fld (pv 0) rfl) pa_nil)) (nomark _)) (pss_one ps_never) pss_nil) (pss_cons (ps_fldaug (pv 0) (pv 1) in_add) (pss_one (ps_ret (pe_slice sl_list (pe_fld (pv 0) rfl) (po_some (pe_op op_sub (pe_fld (pv 0) rfl) (pv 1))) (po_some (pe_fld (pv 0) rfl))))))), ?_⟩)
  · (repeat (first | exact congrArg List.length h.1 | obtain ⟨_, h⟩ := h))
  · obtain ⟨r, b, m, rest, x, rest', rfl, ⟨dx, l, n, hr0, hb, hbr, hn, hl, rfl⟩, hf, q⟩ := h
    obtain ⟨h1, rfl, rfl⟩ := front_eq hf
    rw [List.length_drop] at h1
    refine pr_when (F := H) (b := false) (et_is (et_B (ev_int (g := fun i j => .bl (decide (j < i))) (i := (n : Int) + (m : Int)) (ev_int (g := fun i j => .int (i + j)) (by walk_at "ev") (by walk_at "ev")) (ev_len2 (by walk_at "ev") (sq_of hb)))) ?_) (fun hb => Bool.noConfusion hb) (fun _ => ?_) H (Ex.refl H)
    · rw [bytesV_len]
      exact decide_eq_false (by omega)
    intro H1 x1
    refine ⟨_, rfl, r, _, dx, _, .int n, rfl, x1 _ _ hr0, T.c_Reader, T.n_Reader_at, rfl, _, rfl, n, m, rfl, rfl, dx, _, x1 _ _ hr0, (by show 2 < 1000; decide), ?_⟩
    have hr2 : upd H1 r (.ins (He.ga K "Reader") dx [("octets", .ref b), ("at", .int ((n : Int) + (m : Int)))]) r = some (.ins (He.ga K "Reader") dx [("octets", .ref b), ("at", .int ((n : Int) + (m : Int)))]) := upd_same
    have hb2 : upd H1 r (.ins (He.ga K "Reader") dx [("octets", .ref b), ("at", .int ((n : Int) + (m : Int)))]) b = some (.lst (bytesV l)) := by rw [upd_ne hbr]; exact x1 _ _ hb
    have e0 : putF "at" (.int ((n : Int) + (m : Int))) [(("octets" : Str), V.ref b), (("at" : Str), V.int n)] = [(("octets" : Str), V.ref b), (("at" : Str), V.int ((n : Int) + (m : Int)))] := rfl
    rw [e0]
    dsimp only
    refine s_retL (xs := bytesV ((l.drop n).take m)) ?_ fun p H' np e hp => q p H' ?_ (Bt.trans (Bt.of x1) (Bt.trans (Bt.upd (Bt.of (Ex.refl _))) (Bt.of e))) ⟨dx, l, n + m, ?_, e _ _ hb2, hbr, by omega, hl, ?_⟩ hp
    · have e1 : bytesV ((l.drop n).take m) = cutV (bytesV l) (some ((n : Int) + (m : Int) - (m : Int))) (some ((n : Int) + (m : Int))) := by
        unfold cutV
        rw [show (n : Int) + (m : Int) - (m : Int) = ((n : Nat) : Int) by omega, show (n : Int) + (m : Int) = ((n + m : Nat) : Int) by omega, HT.sIx_nat, HT.sIx_nat, bytesV_len, Nat.min_eq_left (by omega), Nat.min_eq_left (by omega)]
        unfold bytesV
        rw [← List.map_drop, ← List.map_take]
        congr 2
        omega
      rw [e1]
      exact el_sl (ev_fld (ev_var rfl) hr2 T.c_Reader T.n_Reader_octets rfl) (eo_some (ev_int (g := fun i j => .int (i - j)) (ev_fld (ev_var rfl) hr2 T.c_Reader T.n_Reader_at rfl) (ev_var rfl))) (eo_some (ev_fld (ev_var rfl) hr2 T.c_Reader T.n_Reader_at rfl)) (sq_of hb2)
    · have h2 := np
      have h3 : p ≠ r := fun z => by rw [z, upd_same] at h2; cases h2
      rw [upd_ne h3] at h2
      exact fresh_back x1 h2
    · exact e _ _ hr2
    · rw [List.drop_drop]
theorem sc_Reader_take_number : FnScope ["self", "many", "found", "octet"] ["self", "many"] d_Reader_take_number.scope := ⟨rfl, rfl, rfl, by decide +kernel, rfl, by decide +kernel, by decide +kernel⟩
theorem ok_Reader_take_number (T : Tx w K mg) : FnOk P w K mg base CX0 5 (He.ma K (He.ga K "Reader") "take_number") (fdOf K (He.ma K (He.ga K "Reader") "take_number")) ["self", "many"] (spTakeN K) := by
  refine mkOk T.F_Reader_take_number ⟨rfl, rfl⟩ sc_Reader_take_number (fun vs H Q E h => ?_) (fun cdv A outer s H vs Q E hr h => ⟨_, (pss_cons (ps_set (i := 2) sc_Reader_take_number.nd rfl (Or.inl rfl) pe_int) (pss_cons (ps_for PassesOwn.never rfl (pi_list (pe_revL (pe_meth (pv 0) T.c_Reader T.m_Reader_take (ok_Reader_take T) (hr.mono (by decide)) T.B_Reader_take .nil pass0 (pa_cons (pv 1) pa_nil)))) (pg_name (i := 3) sc_Reader_take_number.nd rfl (Or.inl rfl)) (pss_one (ps_set (i := 2) sc_Reader_take_number.nd rfl (Or.inl rfl) (pe_op op_add (pe_op op_mul (pv 2) pe_int) (pv 3))))) (pss_one (ps_ret (pv 2))))), ?_⟩)
  · (repeat (first | exact congrArg List.length h.1 | obtain ⟨_, h⟩ := h))
  · obtain ⟨r, b, m, n, rest, rest', rfl, hrd, hm, hn, q⟩ := h
    unfold RWire.readNum at hn
    cases hf : RWire.front m rest with
    | none => rw [hf] at hn; cases hn
    | some pr =>
    rw [hf] at hn
    injection hn with hn
    injection hn with hn1 hn2
    obtain ⟨seg, rest2⟩ := pr
    obtain rfl : rest2 = rest' := hn2
    have hseg : RWire.numOf seg = n := hn1
    refine q_asg (H := H) ev_c fun H1 x1 => ?_
    have ht := rd_meth (hrd.mono x1)
    obtain ⟨dx, fs, hr1, hno⟩ := ht
    have len : seg.length = m := by
      obtain ⟨h1, h2, _⟩ := front_eq hf
      rw [h2, List.length_take, Nat.min_eq_left h1]
    refine ⟨_, rfl, r, dx, fs, rfl, hr1, hno "take" rfl, _, rfl, r, b, m, rest, seg, rest2, rfl, hrd.mono x1, hf, fun p H2 np bt hr2 hp => ⟨p, bytesV seg, rfl, sq_of hp, fun p2 np2 => ⟨p2, rfl, ⟨_, sq_of upd_same⟩, ?_⟩⟩⟩
    refine for_list (fun i σ' H' => Ex (upd H2 p2 (.lst (bytesV seg).reverse)) H' ∧ ∃ y, σ' = [some (.ref r), some (.int m), some (.int (RWire.numOf (seg.drop (seg.length - i)))), y]) ⟨Ex.refl _, _, by rw [Nat.sub_zero, List.drop_length]; rfl⟩ (fun i σ' H' _ p => sq_of (p.1 _ _ upd_same)) (fun i x σ' H' hi p => ?_) fun σ' H' p => ?_
    · obtain ⟨x3, y, rfl⟩ := p
      have hi2 := (List.getElem?_eq_some_iff.mp hi).1
      rw [List.length_reverse, bytesV_len] at hi2
      rw [List.getElem?_reverse (by rw [bytesV_len]; exact hi2), bytesV_len] at hi
      unfold bytesV at hi
      rw [List.getElem?_map] at hi
      have hlt : seg.length - 1 - i < seg.length := by omega
      rw [List.getElem?_eq_getElem hlt] at hi
      injection hi with hi
      subst hi
      refine s_asg (ev_int (g := fun i j => .int (i + j)) (ev_op (ev_var rfl) ev_c (rv_I (.inr ⟨by decide, by decide⟩))) (ev_var rfl)) fun H4 x4 => ⟨x3.trans x4, some (.int (seg[seg.length - 1 - i].toNat : Int)), ?_⟩
      have e1 : seg.drop (seg.length - (i + 1)) = seg[seg.length - 1 - i] :: seg.drop (seg.length - i) := by
        rw [show seg.length - (i + 1) = seg.length - 1 - i by omega, List.drop_eq_getElem_cons hlt]
        congr 2
        omega
      rw [e1]
      exact congrArg (fun z : Int => [some (V.ref r), some (V.int m), some (V.int z), some (V.int (seg[seg.length - 1 - i].toNat : Int))]) (show (RWire.numOf (seg.drop (seg.length - i)) : Int) * 256 + (seg[seg.length - 1 - i].toNat : Int) = ((seg[seg.length - 1 - i].toNat + 256 * RWire.numOf (seg.drop (seg.length - i)) : Nat) : Int) by omega)
    · obtain ⟨x3, y, rfl⟩ := p
      rw [List.length_reverse, bytesV_len, Nat.sub_self, List.drop_zero, hseg]
      refine s_ret (ev_var rfl) fun H4 x4 => q H4 ?_ (hr2.mono ((Ex.new np2).trans (x3.trans x4)))
      exact Bt.trans (Bt.of x1) (Bt.trans bt (Bt.of ((Ex.new np2).trans (x3.trans x4))))
theorem sc_Reader_take_text : FnScope ["self", "many"] ["self"] d_Reader_take_text.scope := ⟨rfl, rfl, rfl, by decide +kernel, rfl, by decide +kernel, by decide +kernel⟩
theorem ok_Reader_take_text (T : Tx w K mg) : FnOk P w K mg base CX0 6 (He.ma K (He.ga K "Reader") "take_text") (fdOf K (He.ma K (He.ga K "Reader") "take_text")) ["self"] (spTakeT K) := by
  refine mkOk T.F_Reader_take_text ⟨rfl, rfl⟩ sc_Reader_take_text (fun vs H Q E h => ?_) (fun cdv A outer s H vs Q E hr h => ⟨_, (pss_cons (ps_set (i := 1) sc_Reader_take_text.nd rfl (Or.inl rfl) (pe_meth (pv 0) T.c_Reader T.m_Reader_take_number (ok_Reader_take_number T) (hr.mono (by decide)) T.B_Reader_take_number .nil pass0 (pa_cons pe_int pa_nil))) (pss_one (ps_ret (pe_call (ok_text_of T) (hr.mono (by decide)) rfl T.g_text_of T.kp_text_of T.B_text_of .nil pass0 (pa_cons (pe_meth (pv 0) T.c_Reader T.m_Reader_take (ok_Reader_take T) (hr.mono (by decide)) T.B_Reader_take .nil pass0 (pa_cons (pv 1) pa_nil)) pa_nil))))), ?_⟩)
  · (repeat (first | exact congrArg List.length h.1 | obtain ⟨_, h⟩ := h))
  · obtain ⟨r, b, u, rest, rest', rfl, hrd, ht, q⟩ := h
    unfold RWire.readText RWire.readNum at ht
    cases hf : RWire.front 4 rest with
    | none => rw [hf] at ht; cases ht
    | some pr =>
    obtain ⟨seg, rest1⟩ := pr
    rw [hf] at ht
    have ht2 : RWire.front (RWire.numOf seg) rest1 = some (u, rest') := ht
    obtain ⟨dx, fs, hr1, hno⟩ := rd_meth hrd
    refine ⟨_, rfl, r, dx, fs, rfl, hr1, hno "take_number" rfl, r, b, 4, RWire.numOf seg, rest, rest1, rfl, hrd, by decide, by unfold RWire.readNum; rw [hf], fun H1 bt hr2 => ?_⟩
    obtain ⟨dx2, fs2, hr3, hno2⟩ := rd_meth hr2
    obtain ⟨h1, hu, _⟩ := front_eq ht2
    have hu2 : u.length ≤ 100000 := by
      obtain ⟨_, l, n, _, _, _, _, h8, h9⟩ := hr2
      rw [hu, List.length_take, ← h9, List.length_drop]
      omega
    refine ⟨_, rfl, r, dx2, fs2, rfl, hr3, hno2 "take" rfl, _, rfl, r, b, RWire.numOf seg, rest1, u, rest', rfl, hr2, ht2, fun p H2 np bt2 hr4 hp => ⟨p, u, rfl, sq_of hp, hu2, fun H3 x3 => q H3 (bt.trans (bt2.trans (Bt.of x3))) (hr4.mono x3)⟩⟩
theorem sc_Reader_take_plain : FnScope ["self", "kind", "found"] ["self", "kind"] d_Reader_take_plain.scope := ⟨rfl, rfl, rfl, by decide +kernel, rfl, by decide +kernel, by decide +kernel⟩
theorem ok_Reader_take_plain (T : Tx w K mg) : FnOk P w K mg base CX0 7 (He.ma K (He.ga K "Reader") "take_plain") (fdOf K (He.ma K (He.ga K "Reader") "take_plain")) ["self", "kind"] (spTakeP K) := by
  refine mkOk T.F_Reader_take_plain ⟨rfl, rfl⟩ sc_Reader_take_plain (fun vs H Q E h => ?_) (fun cdv A outer s H vs Q E hr h => ⟨_, (pss_cons (ps_if (pt_cmpR op_eq (pv 1) (pe_gc rfl T.i_NOTHING) (nomark _)) (pss_one (ps_ret (pe_new0 T.noth.1 T.noth.2 (Tx.kp_Nothing T) rfl T.g_Nothing))) pss_nil) (pss_cons (ps_if (pt_cmpR op_eq (pv 1) (pe_gc rfl T.i_NULL) (nomark _)) (pss_one (ps_ret pe_non)) pss_nil) (pss_cons (ps_if (pt_cmpR op_in_seq (pv 1) (pe_tup (pa_cons (pe_gc rfl T.i_FALSE) (pa_cons (pe_gc rfl T.i_TRUE) pa_nil))) rfl) (pss_one (ps_ret (pe_cmpR op_eq (pv 1) (pe_gc rfl T.i_TRUE) (nomark _)))) pss_nil) (pss_cons (ps_if (pt_cmpR op_eq (pv 1) (pe_gc rfl T.i_TEXT) (nomark _)) (pss_one (ps_ret (pe_meth0 (pv 0) T.c_Reader T.m_Reader_take_text (ok_Reader_take_text T) (hr.mono (by decide)) T.B_Reader_take_text .nil pass0))) pss_nil) (pss_cons (ps_if (pt_cmpR op_ne (pv 1) (pe_gc rfl T.i_NUMBER) (nomark _)) (pss_one ps_never) pss_nil) (pss_cons (ps_set (i := 2) sc_Reader_take_plain.nd rfl (Or.inl rfl) (pe_meth (pv 0) T.c_Reader T.m_Reader_take_number (ok_Reader_take_number T) (hr.mono (by decide)) T.B_Reader_take_number .nil pass0 (pa_cons pe_int pa_nil))) (pss_cons (ps_set (i := 2) sc_Reader_take_plain.nd rfl (Or.inl rfl) (pe_ifExp (pt_cmpR op_ge (pv 2) (pe_gc rfl T.i_SMALL) (nomark _)) (pe_op op_sub (pv 2) (pe_gc rfl T.i_WIDE)) (pv 2))) (pss_cons (ps_if (pt_not (pt_chain op_le op_le (pe_un un_neg (pe_gc rfl T.i_MOST_NUMBER)) (pv 2) (pe_gc rfl T.i_MOST_NUMBER))) (pss_one ps_never) pss_nil) (pss_one (ps_ret (pv 2))))))))))), ?_⟩)
  · (repeat (first | exact congrArg List.length h.1 | obtain ⟨_, h⟩ := h))
  · obtain ⟨r, b, k, f, x, rest, rest', rfl, hrd, hk, hv, q⟩ := h
    have iK : ∀ (c : Nat), EvT (tB (tOp rEq (tVar 1) (tC (.int (c : Int))))) [some (.ref r), some (.int k), none] H (decide (k = c)) := fun c => et_is (et_B (ev_sc (ev_var rfl) ev_c rfl)) (decide_eq_decide.mpr ⟨fun z => by injection z with z; omega, fun z => by rw [z]⟩)
    refine pr_when (F := H) (iK 0) (fun hb => ?_) (fun h0 => ?_) H (Ex.refl H)
    · obtain rfl := of_decide_eq_true hb
      injection hv with hv
      injection hv with hx hr
      subst hx; subst hr
      intro H1 x1 a dx na nd ne
      refine q (.ref a) _ (Bt.of (x1.trans ((Ex.new nd).trans (Ex.new (by rw [upd_ne (Ne.symm ne)]; exact na))))) (hrd.mono (x1.trans ((Ex.new nd).trans (Ex.new (by rw [upd_ne (Ne.symm ne)]; exact na))))) ?_
      unfold ValAt
      exact ⟨a, dx, rfl, by rw [nw_at (fresh_back x1 na)]; exact upd_same⟩
    refine pr_when (iK 1) (fun hb => ?_) (fun h1 => ?_)
    · obtain rfl := of_decide_eq_true hb
      injection hv with hv
      injection hv with hx hr
      subst hx; subst hr
      exact pr_ret ev_c fun H1 x1 => q .non H1 (Bt.of x1) (hrd.mono x1) (by unfold ValAt; rfl)
    refine pr_when (b := decide (k = 2) || decide (k = 3)) (et_is (et_B (ev_inU (ev_var rfl) (eu_tup (ea_cons ev_c (ea_cons ev_c ea_nil)) (by show 2 ≤ 100000; decide)) rfl rfl)) ?_) (fun hb => ?_) (fun h2 => ?_)
    · show (((2 : Int) == (k : Int)) || (((3 : Int) == (k : Int)) || false)) = _
      rw [Bool.or_false]
      congr 1 <;> (rw [Bool.eq_iff_iff]; simp; omega)
    · refine pr_ret (ev_sc (ev_var rfl) ev_c rfl) fun H1 x1 => q _ H1 (Bt.of x1) ?_ ?_
      · have hr : rest' = rest := by
          rcases (Bool.or_eq_true _ _).mp hb with z | z <;> (obtain rfl := of_decide_eq_true z; injection hv with hv; injection hv with hx hr; exact hr.symm)
        rw [hr]
        exact hrd.mono x1
      · rcases (Bool.or_eq_true _ _).mp hb with z | z <;> (obtain rfl := of_decide_eq_true z; injection hv with hv; injection hv with hx hr; subst hx; unfold ValAt; rfl)
    refine pr_when (iK 6) (fun hb => ?_) (fun h6 => ?_)
    · obtain rfl := of_decide_eq_true hb
      have hv2 : RWire.readWords rest = some (x, rest') := hv
      unfold RWire.readWords at hv2
      cases ht : RWire.readText rest with
      | none => rw [ht] at hv2; cases hv2
      | some pr =>
      obtain ⟨u, rest1⟩ := pr
      rw [ht] at hv2
      injection hv2 with hv2
      injection hv2 with hx hr
      subst hx
      obtain rfl : rest1 = rest' := hr
      intro H1 x1
      obtain ⟨dx, fs, hr1, hno⟩ := rd_meth (hrd.mono x1)
      exact ⟨_, rfl, r, dx, fs, rfl, hr1, hno "take_text" rfl, r, b, u, rest, rest1, rfl, hrd.mono x1, ht, fun H2 bt hr2 => q _ H2 ((Bt.of x1).trans bt) hr2 (by unfold ValAt; rfl)⟩
    have hk4 : k = 4 := by
      unfold plainK at hk
      simp at hk h0 h1 h2 h6
      omega
    subst hk4
    refine pr_when (b := false) (et_is (et_B (ev_scn (ev_var rfl) ev_c rfl)) rfl) (fun hb => Bool.noConfusion hb) (fun _ => ?_)
    have hv2 : RWire.readInt rest = some (x, rest') := hv
    unfold RWire.readInt at hv2
    cases hn : RWire.readNum 8 rest with
    | none => rw [hn] at hv2; cases hv2
    | some pr =>
    obtain ⟨n, rest1⟩ := pr
    rw [hn] at hv2
    have hv3 : (if Nat.ble (RWire.intOf n).natAbs RWire.intMost then some (RWire.Value.int (RWire.intOf n), rest1) else none) = some (x, rest') := hv2
    have hi : Nat.ble (RWire.intOf n).natAbs RWire.intMost = true := by
      cases z : Nat.ble (RWire.intOf n).natAbs RWire.intMost with
      | true => rfl
      | false => rw [z] at hv3; cases hv3
    rw [if_pos hi] at hv3
    injection hv3 with hv3
    injection hv3 with hx hr
    subst hx
    subst hr
    have hi2 : (RWire.intOf n).natAbs ≤ 9007199254740991 := Nat.le_of_ble_eq_true hi
    intro H1 x1
    obtain ⟨dx, fs, hr1, hno⟩ := rd_meth (hrd.mono x1)
    refine ⟨_, rfl, r, dx, fs, rfl, hr1, hno "take_number" rfl, r, b, 8, n, rest, rest1, rfl, hrd.mono x1, by decide, hn, fun H2 bt hr2 => ?_⟩
    have ei : RWire.intOf n = if (9223372036854775808 : Int) ≤ (n : Int) then (n : Int) - 18446744073709551616 else (n : Int) := by
      unfold RWire.intOf
      by_cases z : n < 9223372036854775808
      · rw [if_pos (decide_eq_true z), if_neg (by omega)]; rfl
      · rw [if_neg (by simpa using z), if_pos (by omega)]; rfl
    refine pr_asg (F := H2) (v := .int (RWire.intOf n)) (ev_if (b := decide ((9223372036854775808 : Int) ≤ (n : Int))) (et_B (ev_int (g := fun i j => .bl (decide (j ≤ i))) (ev_var rfl) ev_c)) (fun hb => ?_) fun hb => ?_) ?_ H2 (Ex.refl H2)
    · rw [ei, if_pos (of_decide_eq_true hb)]
      exact ev_int (g := fun i j => .int (i - j)) (ev_var rfl) ev_c
    · rw [ei, if_neg (of_decide_eq_false hb)]
      exact ev_var rfl
    · refine pr_when (b := false) (et_is (et_not (et_B (ev_chain (ev_un ev_c ru_neg) (ev_var rfl) ev_c))) ?_) (fun hb => Bool.noConfusion hb) (fun _ => pr_ret (ev_var rfl) fun H3 x3 => q _ H3 ((Bt.of x1).trans (bt.trans (Bt.of x3))) (hr2.mono x3) (by unfold ValAt; rfl))
      rw [decide_eq_true (by omega : -(9007199254740991 : Int) ≤ RWire.intOf n), decide_eq_true (by omega : RWire.intOf n ≤ (9007199254740991 : Int))]
      rfl
end
end Sl
/-! ## SlZip -/
namespace Sl
open PySem PySem.Spec PySem.W PySem.Calls PyProof.Rows
/-! ### list(zip(a, b)): every pair is a new tuple that the list keeps -/
abbrev ZipH (h : Heap) (z TI TO T : Addr) (b : Bool) : Prop :=
  h.get? z = some { cls := .type "zip", dict := none, data := .fields #[rawInt T, .bool b, .bool false, .ref TI, .ref TO], slots := #[] }
section
variable {prog : Program} {w : World} {A : Around} {E : Value → Shared → Prop} {s : Shared}
/-- the pair handed out is not free: the flag is set -/
theorem zip_busy {z TI TO T : Addr} {b : Bool} {oT : Obj} {Q : Bool → Shared → Prop} (hz : ZipH s.heap z TI TO T b) (hT : s.heap.get? T = some oT) (q : ∀ h', ZipH h' z TI TO T true → Heap.SameBut z s.heap h' → Q false { s with heap := h' }) :
    wpAny (model prog w) A (Builtin.SmallTypes.ownedTupleIsFree (.ref z)) Q E s := by
  unfold Builtin.SmallTypes.ownedTupleIsFree
  refine wpAny_bind (wpAny_field hz rfl (x := rawInt T) rfl ?_)
  show wpAny _ _ (loadIfAlive (T : Int).toNat >>= _) _ _ _
  refine wpAny_bind (kdx_alive (o := oT) (by rw [Int.toNat_natCast]; exact hT) ?_)
  show wpAny _ _ (field (.ref z) 1 >>= _) _ _ _
  refine wpAny_bind (wpAny_field hz rfl (x := .bool b) rfl ?_)
  cases b with
  | true => exact wpAny_pure (q s.heap hz ⟨rfl, fun _ _ => rfl⟩)
  | false =>
    refine wpAny_bind (wpAny_setField_rec hz (by simp) fun h1 hz1 hs1 => wpAny_pure (q h1 hz1 hs1))
theorem zipH_next {z TI TO i1 i2 l1 l2 T : Addr} {bb : Bool} {oT : Obj} {k1 k2 : Nat} {xs ys : Array Value} {x y : Value} {Q : Value → Shared → Prop} (D : ZipApart z TI TO i1 i2 l1 l2)
    (hz : ZipH s.heap z TI TO T bb) (hT : s.heap.get? T = some oT) (hTI : IsPair s.heap TI (.ref i1) (.ref i2))
    (h1 : s.heap.IsListIter i1 l1 k1) (h2 : s.heap.IsListIter i2 l2 k2) (hl1 : s.heap.IsList l1 xs) (hl2 : s.heap.IsList l2 ys) (hx : xs[k1]? = some x) (hy : ys[k2]? = some y)
    (hQ : ∀ h', ZipH h' z TI TO T true → h'.IsListIter i1 l1 (k1 + 1) → h'.IsListIter i2 l2 (k2 + 1) → IsPair h' s.heap.objs.size x y → h'.objs.size = s.heap.objs.size + 1 →
      (∀ c o, c ≠ z → c ≠ i1 → c ≠ i2 → s.heap.get? c = some o → h'.get? c = some o) → Q (.ref s.heap.objs.size) { s with heap := h' }) :
    wpAny (model prog w) A (Builtin.«zip.__next__» ⟨[.ref z], []⟩) (fun fin s' => ∃ v, fin = .done (.ret v) ∧ Q v s') E s := by
  show wpAny _ _ (field (.ref z) 2 >>= _) _ _ _
  refine wpAny_bind (wpAny_field hz rfl (x := .bool false) rfl ?_)
  show wpAny _ _ (field (.ref z) 3 >>= _) _ _ _
  refine wpAny_bind (wpAny_field hz rfl (x := .ref TI) rfl (wpAny_bind (wpAny_seqItems hTI rfl ?_)))
  show wpAny _ _ (Builtin.SmallTypes.ownedTupleIsFree (.ref z) >>= _) _ _ _
  refine wpAny_bind (zip_busy hz hT fun g1 hz1 s1 => ?_)
  simp only [Bool.false_eq_true, if_false]
  refine wpAny_bind ?_
  rw [← Array.forIn_toList]
  simp only [List.forIn_cons, List.forIn_nil]
  refine wpAny_bind (wpAny_bind (wpAny_holding ?_))
  show wpAny _ _ (Builtin.SmallTypes.nextOf (.ref i1) >>= _) _ _ _
  refine wpAny_bind (wpAny_nextOf_list_item (h1.extBut s1.extBut D.i1z) (hl1.extBut s1.extBut D.l1z) hx fun g2 h12 s2 => wpAny_pure (wpAny_pure ?_))
  refine wpAny_bind (wpAny_bind (wpAny_holding ?_))
  show wpAny _ _ (Builtin.SmallTypes.nextOf (.ref i2) >>= _) _ _ _
  refine wpAny_bind (wpAny_nextOf_list_item ((h2.extBut s1.extBut D.i2z).extBut s2.extBut D.i12.symm) ((hl2.extBut s1.extBut D.l2z).extBut s2.extBut D.l2i1) hy fun g3 h23 s3 => wpAny_pure (wpAny_pure (wpAny_pure ?_)))
  have sz : g3.objs.size = s.heap.objs.size := by rw [s3.1, s2.1, s1.1]
  show wpAny _ _ (newTuple [x, y] >>= _) _ _ _
  refine wpAny_bind (wpAny_newTuple (wpAny_pure ⟨_, rfl, ?_⟩))
  dsimp only
  rw [sz]
  have up : ∀ c o, g3.get? c = some o → (g3.push { cls := .type "tuple", data := .seq #[x, y] }).get? c = some o := fun c o e => Heap.get?_push_of_some _ e
  refine hQ _ (up _ _ (s3.extBut _ _ D.i2z.symm (s2.extBut _ _ D.i1z.symm hz1))) ((h12.extBut s3.extBut D.i12).at fun o e => up _ o e) (h23.at fun o e => up _ o e) ?_ ?_ fun c o c1 c3 c4 e => up c o (s3.extBut _ _ c4 (s2.extBut _ _ c3 (s1.extBut _ _ c1 e)))
  · have := Heap.get?_push_size g3 (o := { cls := .type "tuple", data := .seq #[x, y] }) rfl
    rw [sz] at this
    exact this
  · show (g3.push _).objs.size = _
    rw [Heap.size_push, sz]
theorem zipH_end {z TI TO i1 i2 l1 l2 T : Addr} {bb : Bool} {oT : Obj} {k1 : Nat} {xs : Array Value} {Q : Fin → Shared → Prop} (hh : A.handled = none) (D : ZipApart z TI TO i1 i2 l1 l2)
    (hz : ZipH s.heap z TI TO T bb) (hT : s.heap.get? T = some oT) (hTI : IsPair s.heap TI (.ref i1) (.ref i2)) (h1 : s.heap.IsListIter i1 l1 k1) (hl1 : s.heap.IsList l1 xs) (hx : xs[k1]? = none)
    (hE : ∀ h' e, (∀ c o, c ≠ z → c ≠ i1 → s.heap.get? c = some o → h'.get? c = some o) → (∃ o, h'.get? e = some o ∧ o.cls = .type "StopIteration") → E (.ref e) { s with heap := h' }) :
    wpAny (model prog w) A (Builtin.«zip.__next__» ⟨[.ref z], []⟩) Q E s := by
  show wpAny _ _ (field (.ref z) 2 >>= _) _ _ _
  refine wpAny_bind (wpAny_field hz rfl (x := .bool false) rfl ?_)
  show wpAny _ _ (field (.ref z) 3 >>= _) _ _ _
  refine wpAny_bind (wpAny_field hz rfl (x := .ref TI) rfl (wpAny_bind (wpAny_seqItems hTI rfl ?_)))
  show wpAny _ _ (Builtin.SmallTypes.ownedTupleIsFree (.ref z) >>= _) _ _ _
  refine wpAny_bind (zip_busy hz hT fun g1 hz1 s1 => ?_)
  simp only [Bool.false_eq_true, if_false]
  refine wpAny_bind ?_
  rw [← Array.forIn_toList]
  simp only [List.forIn_cons, List.forIn_nil]
  refine wpAny_bind (wpAny_bind (wpAny_holding ?_))
  show wpAny _ _ (Builtin.SmallTypes.nextOf (.ref i1) >>= _) _ _ _
  exact wpAny_bind (wpAny_nextOf_list_end hh (h1.extBut s1.extBut D.i1z) (hl1.extBut s1.extBut D.l1z) hx fun g2 e s2 he => hE g2 e (fun c o c1 c3 q => s2 _ _ c3 (s1.extBut _ _ c1 q)) he)
/-- the iterator between two turns -/
structure ZSt (h : Heap) (z TI TO i1 i2 l1 l2 S : Addr) (xs ys : Array Value) (i : Nat) : Prop where
  ti : IsPair h TI (.ref i1) (.ref i2)
  to : ∃ a b, IsPair h TO a b
  a1 : h.IsListIter i1 l1 i
  a2 : h.IsListIter i2 l2 i
  b1 : h.IsList l1 xs
  b2 : h.IsList l2 ys
  st : IsZip h z TI TO .none ∨ ∃ T b oT, ZipH h z TI TO T b ∧ h.get? T = some oT ∧ T ≠ z ∧ T ≠ i1 ∧ T ≠ i2 ∧ T ≠ S
theorem ZSt.keep {h h' : Heap} {z TI TO i1 i2 l1 l2 S : Addr} {xs ys : Array Value} {i : Nat} (q : ZSt h z TI TO i1 i2 l1 l2 S xs ys i) (up : ∀ b o, b ≠ S → h.get? b = some o → h'.get? b = some o)
    (nz : z ≠ S) (nTI : TI ≠ S) (nTO : TO ≠ S) (n1 : i1 ≠ S) (n2 : i2 ≠ S) (m1 : l1 ≠ S) (m2 : l2 ≠ S) : ZSt h' z TI TO i1 i2 l1 l2 S xs ys i where
  ti := up _ _ nTI q.ti
  to := let ⟨a, b, e⟩ := q.to; ⟨a, b, up _ _ nTO e⟩
  a1 := q.a1.at fun o e => up _ o n1 e
  a2 := q.a2.at fun o e => up _ o n2 e
  b1 := let ⟨o, e, r⟩ := q.b1; ⟨o, up _ _ m1 e, r⟩
  b2 := let ⟨o, e, r⟩ := q.b2; ⟨o, up _ _ m2 e, r⟩
  st := q.st.elim (fun e => .inl (up _ _ nz e)) fun ⟨T, b, oT, e1, e2, c1, c2, c3, c4⟩ => .inr ⟨T, b, oT, up _ _ nz e1, up _ _ c4 e2, c1, c2, c3, c4⟩
theorem z_item {z TI TO i1 i2 l1 l2 S : Addr} {xs ys : Array Value} {i : Nat} {x y : Value} {Q : Option Value → Shared → Prop} (D : ZipApart z TI TO i1 i2 l1 l2) (q : ZSt s.heap z TI TO i1 i2 l1 l2 S xs ys i) (hS : S < s.heap.objs.size) (hx : xs[i]? = some x) (hy : ys[i]? = some y)
    (hQ : ∀ h', ZSt h' z TI TO i1 i2 l1 l2 S xs ys (i + 1) → IsPair h' s.heap.objs.size x y → h'.objs.size = s.heap.objs.size + 1 → (∀ c o, c ≠ z → c ≠ TO → c ≠ i1 → c ≠ i2 → s.heap.get? c = some o → h'.get? c = some o) → Q (some (.ref s.heap.objs.size)) { s with heap := h' }) :
    wpAny (model prog w) A (pyNext (.ref z)) Q E s := by
  have lt : ∀ {c : Addr} {o : Obj}, s.heap.get? c = some o → s.heap.objs.size ≠ c := fun e => Nat.ne_of_gt (Heap.lt_size e)
  have li1 : s.heap.objs.size ≠ i1 := by obtain ⟨o, e, _⟩ := q.a1; exact lt e
  have li2 : s.heap.objs.size ≠ i2 := by obtain ⟨o, e, _⟩ := q.a2; exact lt e
  obtain ⟨a, b, hTO⟩ := q.to
  rcases q.st with hz | ⟨T, bb, oT, hz, hT, c1, c2, c3, c4⟩
  · refine wpAny_pyNext_zip_item D hz q.ti hTO q.a1 q.a2 q.b1 q.b2 hx hy fun h' e1 e2 e3 e4 e5 e6 e7 => hQ h' ⟨e7 _ _ D.TIz D.TITO D.TIi1 D.TIi2 q.ti, ⟨_, _, e2⟩, e3, e4, ?_, ?_, .inr ⟨s.heap.objs.size, false, _, e1, e5, lt hz, li1, li2, Nat.ne_of_gt hS⟩⟩ e5 e6 e7
    · obtain ⟨o, e, r⟩ := q.b1
      exact ⟨o, e7 _ _ D.l1z D.l1TO D.l1i1 D.l1i2 e, r⟩
    · obtain ⟨o, e, r⟩ := q.b2
      exact ⟨o, e7 _ _ D.l2z D.l2TO D.l2i1 D.l2i2 e, r⟩
  · have hty : s.TypeIs (.ref z) "zip" := ⟨_, hz, rfl⟩
    unfold pyNext
    refine wpAny_bind (wpAny_attempt (wpAny_callSpecial?_slot (name := Str.ofString "__next__") hty PySem.F.slot_zip_next (wpAny_call_entry PySem.F.slot_zip_next hty PySem.F.entry_zip_next
      (zipH_next D hz hT q.ti q.a1 q.a2 q.b1 q.b2 hx hy fun h' e1 e3 e4 e5 e6 e7 => wpAny_pure (hQ h' ⟨e7 _ _ D.TIz D.TIi1 D.TIi2 q.ti, ⟨_, _, e7 _ _ D.TOz D.TOi1 D.TOi2 hTO⟩, e3, e4, ?_, ?_, .inr ⟨T, true, oT, e1, e7 _ _ c1 c2 c3 hT, c1, c2, c3, c4⟩⟩ e5 e6 fun c o n1 _ n3 n4 e => e7 c o n1 n3 n4 e)) (PySem.F.args_zip_next_1 _))))
    · obtain ⟨o, e, r⟩ := q.b1
      exact ⟨o, e7 _ _ D.l1z D.l1i1 D.l1i2 e, r⟩
    · obtain ⟨o, e, r⟩ := q.b2
      exact ⟨o, e7 _ _ D.l2z D.l2i1 D.l2i2 e, r⟩
theorem z_done {z TI TO i1 i2 l1 l2 S : Addr} {xs ys : Array Value} {i : Nat} {Q : Option Value → Shared → Prop} (hh : A.handled = none) (D : ZipApart z TI TO i1 i2 l1 l2) (q : ZSt s.heap z TI TO i1 i2 l1 l2 S xs ys i) (hx : xs[i]? = none)
    (hQ : ∀ h', (∀ c o, c ≠ z → c ≠ TO → c ≠ i1 → c ≠ i2 → s.heap.get? c = some o → h'.get? c = some o) → Q none { s with heap := h' }) : wpAny (model prog w) A (pyNext (.ref z)) Q E s := by
  obtain ⟨a, b, hTO⟩ := q.to
  rcases q.st with hz | ⟨T, bb, oT, hz, hT, c1, c2, c3, c4⟩
  · exact wpAny_pyNext_zip_end hh D hz q.ti hTO q.a1 q.a2 q.b1 q.b2 (.inl hx) fun h' e => hQ h' e
  · have hty : s.TypeIs (.ref z) "zip" := ⟨_, hz, rfl⟩
    unfold pyNext
    refine wpAny_bind (wpAny_attempt (wpAny_callSpecial?_slot (name := Str.ofString "__next__") hty PySem.F.slot_zip_next (wpAny_call_entry PySem.F.slot_zip_next hty PySem.F.entry_zip_next
      (zipH_end hh D hz hT q.ti q.a1 q.b1 hx fun h' e hk he => ?_) (PySem.F.args_zip_next_1 _))))
    obtain ⟨o, ho, hc⟩ := he
    exact wpAny_bind (wpAny_isInstance (T := "StopIteration") (b := true) ⟨o, ho, hc⟩ isSubtype_stop (wpAny_pure (hQ _ fun c o n1 _ n3 _ e => hk c o n1 n3 e)))
/-- the pairs gathered -/
structure PairG (xs ys : Array Value) (lo : Addr) (h : Heap) (as : List Addr) : Prop where
  above : ∀ a ∈ as, lo < a
  lt : ∀ a ∈ as, a < h.objs.size
  nd : as.Nodup
  pairs : ∀ (j : Nat) (a : Addr), as[j]? = some a → ∃ x y, xs[j]? = some x ∧ ys[j]? = some y ∧ IsPair h a x y
theorem PairG.up {xs ys : Array Value} {lo : Addr} {h h' : Heap} {as : List Addr} (g : PairG xs ys lo h as) (hz : h.objs.size ≤ h'.objs.size) (k : ∀ a ∈ as, ∀ o, h.get? a = some o → h'.get? a = some o) : PairG xs ys lo h' as :=
  ⟨g.above, fun a ha => Nat.lt_of_lt_of_le (g.lt a ha) hz, g.nd, fun j a hj => by
    obtain ⟨x, y, e1, e2, e3⟩ := g.pairs j a hj
    exact ⟨x, y, e1, e2, k a (List.mem_of_getElem? hj) _ e3⟩⟩
theorem zip_nolen : typeLookup (.type "zip") "__len__" = pure none := by rw [typeLookup_type, builtinLookup_eq_fast]; kernel_rfl
theorem zip_nohint : typeLookup (.type "zip") "__length_hint__" = pure none := by rw [typeLookup_type, builtinLookup_eq_fast]; kernel_rfl
theorem zip_hint {prog : Program} {w : World} {A : Around} {E : Value → Shared → Prop} {s : Shared} {z : Addr} {Q : Bool → Shared → Prop} (hT : s.TypeIs (.ref z) "zip") (q : Q true s) : wpAny (model prog w) A (Builtin.List.listLengthHint (.ref z)) Q E s := by
  unfold Builtin.List.listLengthHint
  refine wpAny_bind (wpAny_specialOf hT zip_nolen ?_)
  refine wpAny_ite_split (fun z => absurd z (by decide)) (fun _ => ?_)
  refine wpAny_ite_split (fun z => absurd z (by decide)) (fun _ => ?_)
  refine wpAny_bind (wpAny_specialOf hT zip_nohint ?_)
  exact wpAny_pure q
end
section
variable {prog : Program} {w : World} {A : Around} {s : Shared} {R : Result → Shared → Prop} {xs ys : Array Value} {z TI TO i1 i2 l1 l2 S : Addr}
abbrev lstO (acc : Array Value) (c : Nat) : Obj := { cls := .type "list", dict := none, data := .seq acc c, slots := #[] }
/-- what must not be the list that is made -/
structure NotS (S z TI TO i1 i2 l1 l2 : Addr) : Prop where
  z : z ≠ S
  TI : TI ≠ S
  TO : TO ≠ S
  i1 : i1 ≠ S
  i2 : i2 ≠ S
  l1 : l1 ≠ S
  l2 : l2 ≠ S
theorem zip_loop (hh : A.handled = none) (D : ZipApart z TI TO i1 i2 l1 l2) (N : NotS S z TI TO i1 i2 l1 l2) (hn : xs.size = ys.size) (hb : xs.size ≤ sizeLine) (res : Value) {h₁ : Heap} {lo : Addr} (hlo : ∀ c ∈ [z, TI, TO, i1, i2, S], c ≤ lo)
    (hR : ∀ h' tk acc c as, (∀ b o, b ≠ S → b ≠ z → b ≠ TO → b ≠ i1 → b ≠ i2 → h₁.get? b = some o → h'.get? b = some o) → h'.get? S = some (lstO acc c) → as.length = xs.size → PairG xs ys lo h' as → acc.toList = as.map Value.ref → R (.ok (.ret res)) { s with heap := h', toks := tk }) :
    ∀ (k i : Nat) (h : Heap) (tk c : Nat) (acc : Array Value) (as : List Addr), xs.size - i = k → i ≤ xs.size → ZSt h z TI TO i1 i2 l1 l2 S xs ys i → (∀ b o, b ≠ S → b ≠ z → b ≠ TO → b ≠ i1 → b ≠ i2 → h₁.get? b = some o → h.get? b = some o) →
      h.get? S = some (lstO acc c) → acc.toList = as.map Value.ref → as.length = i → PairG xs ys lo h as → lo < h.objs.size → codeAny (model prog w) A (.builtin "list.extend.loop" ⟨[.ref S, .ref z, res], []⟩) R { s with heap := h, toks := tk } := by
  have far : ∀ {a c : Addr}, lo < a → c ∈ [z, TI, TO, i1, i2, S] → a ≠ c := fun h m => Nat.ne_of_gt (Nat.lt_of_le_of_lt (hlo _ m) h)
  intro k
  induction k with
  | zero =>
    intro i h tk c acc as hk hi hst keep hS hacc hal hG hlt
    have ie : i = xs.size := by omega
    refine codeAny_builtin PySem.F.entry_extend_loop ?_
    rw [Around.under_plainId PySem.F.plain_extend_loop _]
    show wpAny _ A.in1 (pyNext (.ref z) >>= _) _ _ _
    refine wpAny_bind (z_done (s := { s with heap := h, toks := tk }) (A := A.in1) hh D hst (by rw [ie]; exact Array.getElem?_size) fun h' kp => wpAny_pure ?_)
    dsimp only at kp
    have kps : ∀ a ∈ as, ∀ o, h.get? a = some o → h'.get? a = some o := fun a ha o e => kp a o (far (hG.above a ha) (by simp)) (far (hG.above a ha) (by simp)) (far (hG.above a ha) (by simp)) (far (hG.above a ha) (by simp)) e
    refine hR h' tk acc c as (fun b o n0 n1 n2 n3 n4 e => kp b o n1 n2 n3 n4 (keep b o n0 n1 n2 n3 n4 e)) (kp S _ N.z.symm N.TO.symm N.i1.symm N.i2.symm hS) (by omega) ⟨hG.above, fun a ha => ?_, hG.nd, fun j a hj => ?_⟩ hacc
    · obtain ⟨j, hj⟩ := List.mem_iff_getElem?.mp ha
      obtain ⟨x, y, _, _, e3⟩ := hG.pairs j a hj
      exact Heap.lt_size (kps a ha _ e3)
    · obtain ⟨x, y, e1, e2, e3⟩ := hG.pairs j a hj
      exact ⟨x, y, e1, e2, kps a (List.mem_of_getElem? hj) _ e3⟩
  | succ k ih =>
    intro i h tk c acc as hk hi hst keep hS hacc hal hG hlt
    have il : i < xs.size := by omega
    have al : acc.size = i := by rw [← Array.length_toList, hacc, List.length_map, hal]
    refine codeAny_builtin PySem.F.entry_extend_loop ?_
    rw [Around.under_plainId PySem.F.plain_extend_loop _]
    show wpAny _ A.in1 (pyNext (.ref z) >>= _) _ _ _
    refine wpAny_bind (z_item (s := { s with heap := h, toks := tk }) D hst (Heap.lt_size hS) (Array.getElem?_eq_getElem il) (Array.getElem?_eq_getElem (hn ▸ il)) fun h' hst' hp hz kp => ?_)
    dsimp only at hp hz kp ⊢
    have hS' := kp S _ N.z.symm N.TO.symm N.i1.symm N.i2.symm hS
    have up : ∀ b o, b ≠ S → h'.get? b = some o → (h'.update S (Obj.mapSeq (·.push (Value.ref h.objs.size)))).get? b = some o := fun b o hb e => (Heap.get?_update_other _ _ (Ne.symm hb)).trans e
    have nS : h.objs.size ≠ S := Nat.ne_of_gt (Heap.lt_size hS)
    have kps : ∀ a ∈ as, ∀ o, h.get? a = some o → (h'.update S (Obj.mapSeq (·.push (Value.ref h.objs.size)))).get? a = some o := fun a ha o e =>
      up a o (far (hG.above a ha) (by simp)) (kp a o (far (hG.above a ha) (by simp)) (far (hG.above a ha) (by simp)) (far (hG.above a ha) (by simp)) (far (hG.above a ha) (by simp)) e)
    have hpn := up _ _ nS hp
    show wpAny _ A.in1 (updateSeq S (·.push (Value.ref h.objs.size)) >>= _) _ _ _
    refine wpAny_bind ?_
    refine wpAny_updateSeq hS' rfl (wpAny_pure ⟨plainId_quiet PySem.F.plain_extend_loop _, ih (i + 1) _ tk _ (acc.push (Value.ref h.objs.size)) (as ++ [h.objs.size]) (by omega) il (hst'.keep up N.z N.TI N.TO N.i1 N.i2 N.l1 N.l2)
      (fun b o n0 n1 n2 n3 n4 e => up b o n0 (kp b o n1 n2 n3 n4 (keep b o n0 n1 n2 n3 n4 e))) (Heap.get?_update_self _ hS' rfl) (by rw [Array.toList_push, hacc, List.map_append]; rfl) (by rw [List.length_append, hal]; rfl) ⟨?_, ?_, ?_, ?_⟩ (Nat.lt_trans hlt (Heap.lt_size hpn))⟩) (by rw [al]; omega) (by show (acc.push (Value.ref h.objs.size)).size ≤ sizeLine + 1; rw [Array.size_push, al]; omega)
    · intro a ha
      rcases List.mem_append.mp ha with ha | ha
      · exact hG.above a ha
      · rw [List.mem_singleton.mp ha]; exact hlt
    · intro a ha
      rcases List.mem_append.mp ha with ha | ha
      · obtain ⟨j, hj⟩ := List.mem_iff_getElem?.mp ha
        obtain ⟨x, y, _, _, e3⟩ := hG.pairs j a hj
        exact Heap.lt_size (kps a ha _ e3)
      · rw [List.mem_singleton.mp ha]; exact Heap.lt_size hpn
    · refine List.nodup_append.mpr ⟨hG.nd, List.pairwise_singleton _ _, fun a ha b hb q => ?_⟩
      rw [List.mem_singleton.mp hb] at q
      exact Nat.lt_irrefl _ (q ▸ hG.lt a ha)
    · intro j a hj
      rcases Nat.lt_trichotomy j as.length with q | q | q
      · rw [List.getElem?_append_left q] at hj
        obtain ⟨x, y, e1, e2, e3⟩ := hG.pairs j a hj
        exact ⟨x, y, e1, e2, kps a (List.mem_of_getElem? hj) _ e3⟩
      · subst q
        rw [List.getElem?_append_right (Nat.le_refl _), Nat.sub_self] at hj
        injection hj with hj
        subst hj
        exact ⟨_, _, by rw [hal]; exact Array.getElem?_eq_getElem il, by rw [hal]; exact Array.getElem?_eq_getElem (hn ▸ il), hpn⟩
      · rw [List.getElem?_eq_none (by rw [List.length_append, List.length_singleton]; omega)] at hj
        cases hj
theorem zip_extend (hh : A.handled = none) (D : ZipApart z TI TO i1 i2 l1 l2) (N : NotS S z TI TO i1 i2 l1 l2) (hn : xs.size = ys.size) (hb : xs.size ≤ sizeLine) (res : Value) {c0 : Nat} (hst : ZSt s.heap z TI TO i1 i2 l1 l2 S xs ys 0) (hz : IsZip s.heap z TI TO .none) (hS : s.heap.get? S = some (lstO #[] c0))
    {lo : Addr} (hlo : ∀ c ∈ [z, TI, TO, i1, i2, S], c ≤ lo) (hlt : lo < s.heap.objs.size)
    (hR : ∀ h' tk acc c as, (∀ b o, b ≠ S → b ≠ z → b ≠ TO → b ≠ i1 → b ≠ i2 → s.heap.get? b = some o → h'.get? b = some o) → h'.get? S = some (lstO acc c) → as.length = xs.size → PairG xs ys lo h' as → acc.toList = as.map Value.ref → R (.ok (.ret res)) { s with heap := h', toks := tk }) :
    wpAny (model prog w) A.in1 (Builtin.List.listExtendWith (.ref S) (.ref z) res)
      (fun fin s' => match fin with | .done f => R (.ok f) s' | .again c' => c'.quiet = true ∧ codeAny (model prog w) A c' R s') (fun e s' => R (.error e) s') s := by
  have go : ∀ (h : Heap) (c1 tk : Nat), h.objs.size = s.heap.objs.size → (∀ b o, b ≠ S → s.heap.get? b = some o → h.get? b = some o) → h.get? S = some (lstO #[] c1) → codeAny (model prog w) A (.builtin "list.extend.loop" ⟨[.ref S, .ref z, res], []⟩) R { s with heap := h, toks := tk } :=
    fun h c1 tk sz kp hS1 => zip_loop (s := s) (h₁ := s.heap) hh D N hn hb res hlo hR xs.size 0 h tk c1 #[] [] (Nat.sub_zero _) (Nat.zero_le _) (hst.keep kp N.z N.TI N.TO N.i1 N.i2 N.l1 N.l2) (fun b o n0 _ _ _ _ e => kp b o n0 e) hS1 rfl rfl
      ⟨fun _ q => absurd q List.not_mem_nil, fun _ q => absurd q List.not_mem_nil, List.Pairwise.nil, fun j a q => by simp at q⟩ (by rw [sz]; exact hlt)
  have hT : s.TypeIs (.ref z) "zip" := ⟨_, hz, rfl⟩
  unfold Builtin.List.listExtendWith
  refine wpAny_bind (wpAny_typeOf (T := "zip") hT ?_)
  have h1 : Builtin.List.listSameRef (.ref S) (.ref z) = false := by simp [Builtin.List.listSameRef, N.z.symm]
  simp only [h1, show (Value.type "zip" == Value.type "list") = false by decide, show (Value.type "zip" == Value.type "tuple") = false by decide, Bool.or_false, Bool.false_eq_true, if_false]
  refine wpAny_bind (wpAny_pyIter_zip hz (wpAny_bind (wpAny_holding (zip_hint hT ?_))))
  refine wpAny_ite_split (fun _ => ?_) (fun q => absurd rfl q)
  refine wpAny_bind (wpAny_rule (wpAny_bind ?_))
  show wpAny _ _ (updateSeq S (·.push .none) >>= fun _ => updateSeq S (·.pop)) _ _ _
  refine wpAny_bind (wpAny_updateSeq hS rfl ?_)
  have hS2 := Heap.get?_update_self (Obj.mapSeq (·.push Value.none)) hS rfl
  refine wpAny_updateSeq (hz := by seq_fits) hS2 rfl (wpAny_pure ⟨plainId_quiet PySem.F.plain_extend_loop _, go _ _ _ ?_ (fun b o n e => (Heap.get?_update_other _ _ (Ne.symm n)).trans ((Heap.get?_update_other _ _ (Ne.symm n)).trans e)) (Heap.get?_update_self (Obj.mapSeq (·.pop)) hS2 rfl)⟩)
  rw [Heap.size_update, Heap.size_update]
/-- list(zip(a, b)), behind zip -/
theorem list_of_zip {Q : Value → Shared → Prop} {E : Value → Shared → Prop} (hh : A.handled = none) (D : ZipApart z TI TO i1 i2 l1 l2) (hn : xs.size = ys.size) (hb : xs.size ≤ sizeLine)
    (hz : IsZip s.heap z TI TO .none) (hTI : IsPair s.heap TI (.ref i1) (.ref i2)) {a b : Value} (hTO : IsPair s.heap TO a b) (h1 : s.heap.IsListIter i1 l1 0) (h2 : s.heap.IsListIter i2 l2 0) (hl1 : s.heap.IsList l1 xs) (hl2 : s.heap.IsList l2 ys)
    (hQ : ∀ h' tk acc c as, (∀ b o, b ≠ z → b ≠ TO → b ≠ i1 → b ≠ i2 → s.heap.get? b = some o → h'.get? b = some o) → h'.get? s.heap.objs.size = some (lstO acc c) → as.length = xs.size → PairG xs ys s.heap.objs.size h' as → acc.toList = as.map Value.ref → Q (.ref s.heap.objs.size) { s with heap := h', toks := tk }) :
    wpAny (model prog w) A (call (.type "list") [.ref z]) Q E s := by
  refine callType_codes (Q₁ := fun obj s₁ => obj = .ref s.heap.objs.size ∧ s₁ = { s with heap := s.heap.push { cls := .type "list", data := .seq #[] } }) PySem.F.called_list (PySem.F.typeCall_list_1 _) PySem.F.entry_list_init (code_list_new _ ⟨rfl, rfl⟩) fun obj s₁ hs₁ => ?_
  obtain ⟨rfl, rfl⟩ := hs₁
  have lt : ∀ {c : Addr} {o : Obj}, s.heap.get? c = some o → c ≠ s.heap.objs.size := fun e => Nat.ne_of_lt (Heap.lt_size e)
  have le : ∀ {c : Addr} {o : Obj}, s.heap.get? c = some o → c ≤ s.heap.objs.size := fun e => Nat.le_of_lt (Heap.lt_size e)
  obtain ⟨o1, e1, r1⟩ := id h1
  obtain ⟨o2, e2, r2⟩ := id h2
  obtain ⟨o3, e3, r3⟩ := id hl1
  obtain ⟨o4, e4, r4⟩ := id hl2
  have N : NotS s.heap.objs.size z TI TO i1 i2 l1 l2 := ⟨lt hz, lt hTI, lt hTO, lt e1, lt e2, lt e3, lt e4⟩
  have hS : (s.heap.push { cls := .type "list", data := .seq #[] }).get? s.heap.objs.size = some (lstO #[] 0) := Heap.get?_push_size _ rfl
  have up : ∀ c o, s.heap.get? c = some o → (s.heap.push { cls := .type "list", data := .seq #[] }).get? c = some o := fun c o e => Heap.get?_push_of_some _ e
  refine ⟨⟨_, hS, rfl⟩, PySem.F.args_list_init_2 _ _, ?_⟩
  show wpAny _ _ (do let old ← Builtin.List.listItems (.ref s.heap.objs.size); Builtin.List.listUpdate (.ref s.heap.objs.size) (fun _ => #[]); letGo old.toList.reverse; Builtin.List.listExtendWith (.ref s.heap.objs.size) (.ref z) .none) _ _ _
  refine wpAny_bind ?_
  unfold Builtin.List.listItems
  refine wpAny_bind (wpAny_seqItems hS rfl (wpAny_pure ?_))
  show wpAny _ _ (updateSeq s.heap.objs.size (fun _ => #[]) >>= fun _ => letGo (#[] : Array Value).toList.reverse >>= fun _ => Builtin.List.listExtendWith (.ref s.heap.objs.size) (.ref z) .none) _ _ _
  refine wpAny_bind (wpAny_updateSeq hS rfl (wpAny_bind (wpAny_letGo ?_)))
  have hS2 := Heap.get?_update_self (Obj.mapSeq (fun _ => (#[] : Array Value))) hS rfl
  have up2 : ∀ c o, c ≠ s.heap.objs.size → s.heap.get? c = some o → ((s.heap.push { cls := .type "list", data := .seq #[] }).update s.heap.objs.size (Obj.mapSeq (fun _ => (#[] : Array Value)))).get? c = some o := fun c o n e => (Heap.get?_update_other _ _ (Ne.symm n)).trans (up c o e)
  refine zip_extend (A := A.in1) (R := _) hh D N hn hb .none ⟨up2 _ _ N.TI hTI, ⟨_, _, up2 _ _ N.TO hTO⟩, h1.at fun o e => up2 _ o N.i1 e, h2.at fun o e => up2 _ o N.i2 e, ⟨o3, up2 _ _ N.l1 e3, r3⟩, ⟨o4, up2 _ _ N.l2 e4, r4⟩, .inl (up2 _ _ N.z hz)⟩ (up2 _ _ N.z hz) hS2 (lo := s.heap.objs.size)
    (fun c m => ?_) ?_ (fun h' tk acc c as kp hS' hl hG hacc => ?_)
  · simp only [List.mem_cons, List.not_mem_nil, or_false] at m
    rcases m with rfl | rfl | rfl | rfl | rfl | rfl <;> first | exact le hz | exact le hTI | exact le hTO | exact le e1 | exact le e2 | exact Nat.le_refl _
  · show _ < (((s.heap.push _).update _ _).objs.size)
    rw [Heap.size_update, Heap.size_push]
    exact Nat.lt_succ_self _
  · exact ⟨rfl, hQ h' tk acc c as (fun b o n1 n2 n3 n4 e => kp b o (lt e) n1 n2 n3 n4 (up2 b o (lt e) e)) hS' hl hG hacc⟩
end
end Sl
/-! ## SlZipE -/
namespace Sl
open PySem PySem.Spec PyProof.Rows L2 Evl
/-! ### list(zip(a, b)) as an expression -/
/-- the pairs tracked at their addresses -/
def putP : Hp → List Addr → List (V × V) → Hp
  | H, a :: as, p :: r => putP (upd H a (.tup [p.1, p.2])) as r
  | H, _, _ => H
theorem putP_off {b : Addr} : ∀ (as : List Addr) (r : List (V × V)) (H : Hp), b ∉ as → putP H as r b = H b
  | [], _, _, _ => rfl
  | _ :: _, [], _, _ => rfl
  | a :: as, p :: r, H, n => (putP_off as r _ fun z => n (.tail _ z)).trans (upd_ne fun z => n (z ▸ .head _))
theorem putP_at : ∀ (as : List Addr) (r : List (V × V)) (H : Hp), as.length = r.length → as.Nodup → ∀ (i : Nat) (t : Addr) (p : V × V), as[i]? = some t → r[i]? = some p → putP H as r t = some (.tup [p.1, p.2])
  | [], _, _, _, _, i, t, p, h, _ => by cases h
  | _ :: _, [], _, h, _, _, _, _, _, _ => by cases h
  | a :: as, q :: r, H, h, n, i, t, p, h1, h2 => by
    obtain ⟨n1, n2⟩ := List.nodup_cons.mp n
    cases i with
    | zero =>
      injection h1 with h1
      injection h2 with h2
      subst h1; subst h2
      exact (putP_off as r _ n1).trans upd_same
    | succ i => exact putP_at as r _ (Nat.succ.inj h) n2 i t p h1 h2
theorem refs_vals : ∀ as : List Addr, Vals (as.map V.ref) (as.map Value.ref)
  | [] => .nil
  | _ :: as => .cons rfl (refs_vals as)
theorem vals_get {xs : List V} {us : List Value} (h : Vals xs us) {i : Nat} {u : Value} (e : us[i]? = some u) : ∃ x, xs[i]? = some x ∧ RelV x u := by
  induction h generalizing i with
  | nil => cases e
  | cons a t ih =>
    cases i with
    | zero => injection e with e; subst e; exact ⟨_, rfl, a⟩
    | succ i => exact ih e
def Zips (H : Hp) (ts : List Addr) (xs ys : List V) : Prop := ts.length = xs.length ∧ ∀ (i : Nat) (t : Addr) (x y : V), ts[i]? = some t → xs[i]? = some x → ys[i]? = some y → H t = some (.tup [x, y])
def tListZip (K : PySem.W.Frag) (ta : TA) : TE := fun σ H Q => ta σ H fun vs H1 => ∃ a b xs ys, vs = [.ref a, .ref b] ∧ SqL K H1 a xs ∧ SqL K H1 b ys ∧ xs.length = ys.length ∧
  ∀ p ts H2, H1 p = none → (∀ t ∈ ts, H1 t = none) → Ex H1 H2 → H2 p = some (.lst (ts.map V.ref)) → Zips H2 ts xs ys → Q (.ref p) H2
section
variable {X : Cx} {e e2 : Expr} {ta : TA} {p p1 p2 pos : Pos}
theorem zips_laid {pins : List (Addr × Obj)} {σ : L2.St} {H : Hp} {s : Shared} {h' : Heap} {tk : Nat} {xs ys : List V} {us vs : List Value} {acc : Array Value} {c : Nat} {S : Addr} {as : List Addr} (I : Inv X pins σ H s) (hz : xs.length ≤ sizeLine) (hl : xs.length = ys.length) (rx : Vals xs us) (ry : Vals ys vs)
    (hk : ∀ b o, s.heap.get? b = some o → h'.get? b = some o) (hs : s.heap.objs.size ≤ S) (hS : h'.get? S = some (lstO acc c)) (hn : as.length = us.length) (hG : PairG us.toArray vs.toArray S h' as) (hacc : acc.toList = as.map Value.ref) :
    ∃ H' : Hp, Ex H H' ∧ H S = none ∧ (∀ t ∈ as, H t = none) ∧ H' S = some (.lst (as.map V.ref)) ∧ Zips H' as xs ys ∧ Inv X pins σ H' { s with heap := h', toks := tk } := by
  have lx := rx.length
  have ly := ry.length
  have nS : S ∉ as := fun z => Nat.lt_irrefl _ (hG.above _ z)
  have newS : H S = none := I.hok.fresh hs
  have new : ∀ t ∈ as, H t = none := fun t ht => I.hok.fresh (Nat.le_of_lt (Nat.lt_of_le_of_lt hs (hG.above t ht)))
  have zl : as.length = (xs.zip ys).length := by rw [List.length_zip]; omega
  generalize hH2 : putP (upd H S (.lst (as.map V.ref))) as (xs.zip ys) = H2
  have off : ∀ b, b ∉ as → b ≠ S → H2 b = H b := fun b n1 n2 => by rw [← hH2, putP_off as _ _ n1, upd_ne n2]
  have kp : Ex H H2 := fun b u q => (off b (fun z => by rw [new b z] at q; cases q) fun z => by rw [z, newS] at q; cases q).trans q
  have eS : H2 S = some (.lst (as.map V.ref)) := by rw [← hH2, putP_off as _ _ nS, upd_same]
  have eT : Zips H2 as xs ys := ⟨by omega, fun i t x y h1 h2 h3 => by
    rw [← hH2]
    exact putP_at as (xs.zip ys) _ zl hG.nd i t (x, y) h1 (List.getElem?_zip_eq_some.mpr ⟨h2, h3⟩)⟩
  have low : ∀ b o, s.heap.get? b = some o → b ∉ as ∧ b ≠ S := fun b o q => ⟨fun z => Nat.lt_irrefl _ (Nat.lt_trans (Nat.lt_of_lt_of_le (Heap.lt_size q) hs) (hG.above b z)), Nat.ne_of_lt (Nat.lt_of_lt_of_le (Heap.lt_size q) hs)⟩
  refine ⟨H2, kp, newS, new, eS, eT, I.call' (ch := []) rfl ⟨fun b o q _ _ _ => hk b o q, fun b o q _ _ _ => ⟨o.slots, hk b o q⟩, fun b o q n _ => (off b (low b o q).1 (low b o q).2).trans n, fun b o q _ => ⟨o, hk b o q⟩, fun b xs q => kp b _ q, fun b o u q => kp b _ q, fun b ps q => ⟨#[], by rw [kp b _ q]; simp⟩⟩ (fun b u q => ?_) I.bare fun b z => by simp at z⟩
  rcases Classical.em (b ∈ as) with hb | hb
  · obtain ⟨j, hj⟩ := List.mem_iff_getElem?.mp hb
    obtain ⟨u1, u2, f1, f2, f3⟩ := hG.pairs j b hj
    obtain ⟨x, g1, r1⟩ := vals_get rx (i := j) (u := u1) (by simpa using f1)
    obtain ⟨y, g2, r2⟩ := vals_get ry (i := j) (u := u2) (by simpa using f2)
    rw [eT.2 j b x y hj g1 g2] at q
    injection q with q
    subst q
    exact ⟨by show 2 ≤ sizeLine; decide, [u1, u2], .cons r1 (.cons r2 .nil), ⟨_, f3, rfl, _, rfl⟩⟩
  rcases Classical.em (b = S) with hb2 | hb2
  · subst hb2
    rw [eS] at q
    injection q with q
    subst q
    refine ⟨by rw [List.length_map]; omega, acc.toList, c, by rw [hacc]; exact refs_vals as, ?_⟩
    rw [Array.toArray_toList]
    exact hS
  · rw [off b hb hb2] at q
    exact (I.hok b u q).stay (fun d v _ y => hk d v y) (fun d y => kp d _ y) fun d xs y => kp d _ y
theorem pe_listZip (hc : X.calm = true) (hg : Gl X "list") (hm : X.mg "list" = none) (hv : bootBuiltins "list" = some (.type "list")) (hg2 : Gl X "zip") (hm2 : X.mg "zip" = none) (ha : PA X [e, e2] ta)
    (hs : starEach [.Call (.Name "zip" p1) [e, e2] [] p2] X.env = (false, eval (.Call (.Name "zip" p1) [e, e2] [] p2) X.env) :: starEach [] X.env := by rfl)
    (hs2 : starEach [e, e2] X.env = (false, eval e X.env) :: starEach [e2] X.env := by rfl) (hpl : (backTo p2 (starEach [e2] X.env)).any (·.1) = false := by rfl) :
    PE X (.Call (.Name "list" p) [.Call (.Name "zip" p1) [e, e2] [] p2] [] pos) (tListZip X.K ta) := by
  refine ⟨fun pins s σ H Q I hq => ?_⟩
  refine wpAny_Call_Name_kw (ld_blt I hg hm hv ?_)
  refine PyProof.Rows.callWith_type1 ?_ hs rfl
  rw [hs]
  show wpAny _ _ (spliced ((false, eval (.Call (.Name "zip" p1) [e, e2] [] p2) X.env) :: backTo pos (starEach [] X.env))) _ _ _
  refine Calls.spliced_cons ?_
  refine Call_ (ld_blt (I.tok _) hg2 hm2 PyProof.Rows.boot_zip (PyProof.Rows.callWith_type1 (thn (ha.run p2 pins _ σ H _ (I.tok _) hq) fun us s1 ⟨vs, H1, I1, r1, a, b, xs, ys, ev, hx, hy, hl, q⟩ => ?_) hs2 hpl))
  subst ev
  cases r1 with
  | cons ra rr =>
  cases rr with
  | cons rb rr =>
  cases rr
  cases ra
  cases rb
  obtain ⟨its, rv, p1, z1⟩ := I1.list hx
  obtain ⟨its2, rv2, p2, _⟩ := I1.list hy
  refine call_zip_2 p1.isList p2.isList fun h' hz hTI hTO h1 h2 hsz hk => ?_
  refine Calls.spliced_nil ?_
  have D := PySem.W.ktu_apart s1.heap.objs.size a b p1.lt p2.lt
  have lk : ∀ {c : Addr} {its : Array Value}, s1.heap.IsList c its → h'.IsList c its := fun q => let ⟨o, e, r⟩ := q; ⟨o, hk _ _ e, r⟩
  refine list_of_zip (s := { s1 with heap := h' }) (I1.ok.hd hc) D (by have l1 := rv.length; have l2 := rv2.length; simp; omega) (by have l1 := rv.length; simp; omega) hz hTI hTO h1 h2 (lk p1.isList) (lk p2.isList) fun g tk acc c as kp hS hn hG hacc => ?_
  have kp2 : ∀ b o, s1.heap.get? b = some o → g.get? b = some o := fun b o e => by
    have lt := Heap.lt_size e
    exact kp b o (Nat.ne_of_lt (Nat.lt_of_lt_of_le lt (Nat.le_add_right _ _))) (Nat.ne_of_lt (Nat.lt_of_lt_of_le lt (Nat.le_add_right _ _))) (Nat.ne_of_lt lt) (Nat.ne_of_lt (Nat.lt_of_lt_of_le lt (Nat.le_add_right _ _))) (hk b o e)
  obtain ⟨H', k1, k2, k3, k4, k5, J⟩ := zips_laid (tk := tk) I1 z1 hl rv rv2 kp2 (by show s1.heap.objs.size ≤ h'.objs.size; omega) hS (by simpa using hn) hG hacc
  exact ⟨.ref _, H', J, rfl, q _ as H' k2 k3 k1 k4 k5⟩
end
end Sl
/-! ## SlTvP -/
namespace Sl
open PySem PySem.Spec PyProof.Rows L2 Evl
/-! ### reading a value, pure: what is under way, and what is to come -/
structure Frm where
  kind : Nat
  many : Nat
  mem : List Val
  nms : List RWire.Text
def good (x : Val) : Bool := RWire.noBig x && (RWire.noOctets x && RWire.noWide x)
abbrev Oct := List UInt8
def Frm.val (f : Frm) : Val := if f.kind = 7 then .list f.mem else .record (f.nms.zip f.mem)
def Frm.push (f : Frm) (x : Val) : Frm := { f with mem := f.mem ++ [x] }
def Frm.name (f : Frm) (u : RWire.Text) : Frm := { f with nms := f.nms ++ [u] }
def aft (d : Nat) (f : Frm) (k : Val → Oct → Prop) (rest : Oct) : Prop :=
  (f.kind = 7 ∧ f.mem.length ≤ f.many ∧ ∃ xs r2, RWire.readMany (RWire.readF d) (f.many - f.mem.length) rest = some (xs, r2) ∧ (∀ y ∈ xs, good y = true) ∧ k (.list (f.mem ++ xs)) r2) ∨
  (f.kind = 8 ∧ f.nms.length = f.mem.length ∧ f.mem.length ≤ f.many ∧ ∃ es r2, RWire.readMany (RWire.readEntry (RWire.readF d)) (f.many - f.mem.length) rest = some (es, r2) ∧ (∀ e ∈ es, good e.2 = true) ∧ RWire.apart (f.nms.zip f.mem ++ es) = true ∧ k (.record (f.nms.zip f.mem ++ es)) r2)
section
variable (X : Val) (R : Oct)
def Dn : List Frm → Val → Oct → Prop
  | [], x, r => x = X ∧ r = R
  | f :: st, x, r => aft (31 - st.length) (f.push x) (Dn st) r
def Af : List Frm → Oct → Prop
  | [], _ => False
  | f :: st, r => aft (31 - st.length) f (Dn X R st) r
def Hd (st : List Frm) (rest : Oct) : Prop := ∃ x r1, RWire.readF (32 - st.length) rest = some (x, r1) ∧ good x = true ∧ Dn X R st x r1
end
variable {X : Val} {R : Oct} {st : List Frm} {f : Frm} {rest : Oct}
theorem good_list : ∀ {l : List Val}, good (.list l) = true → ∀ y ∈ l, good y = true := fun {l} h => by
  have key : ∀ l : List Val, RWire.noBigMany l = true → RWire.noOctetsMany l = true → RWire.noWideMany l = true → ∀ y ∈ l, good y = true := fun l => by
    induction l with
    | nil => intro _ _ _ y hy; cases hy
    | cons a r ih =>
      intro h1 h2 h3 y hy
      obtain ⟨a1, b1⟩ := Bool.and_eq_true_iff.mp (show (RWire.noBig a && RWire.noBigMany r) = true from h1)
      obtain ⟨a2, b2⟩ := Bool.and_eq_true_iff.mp (show (RWire.noOctets a && RWire.noOctetsMany r) = true from h2)
      obtain ⟨a3, b3⟩ := Bool.and_eq_true_iff.mp (show (RWire.noWide a && RWire.noWideMany r) = true from h3)
      rcases List.mem_cons.mp hy with rfl | hy
      · show (_ && (_ && _)) = true
        rw [a1, a2, a3]; rfl
      · exact ih b1 b2 b3 y hy
  obtain ⟨a, b⟩ := Bool.and_eq_true_iff.mp h
  obtain ⟨b, c⟩ := Bool.and_eq_true_iff.mp b
  exact key l a b c
theorem good_rec : ∀ {l : List (RWire.Text × Val)}, good (.record l) = true → ∀ e ∈ l, good e.2 = true := fun {l} h => by
  have key : ∀ l : List (RWire.Text × Val), RWire.noBigEntries l = true → RWire.noOctetsEntries l = true → RWire.noWideEntries l = true → ∀ e ∈ l, good e.2 = true := fun l => by
    induction l with
    | nil => intro _ _ _ y hy; cases hy
    | cons a r ih =>
      intro h1 h2 h3 y hy
      obtain ⟨a1, b1⟩ := Bool.and_eq_true_iff.mp (show (RWire.noBig a.2 && RWire.noBigEntries r) = true from h1)
      obtain ⟨a2, b2⟩ := Bool.and_eq_true_iff.mp (show (RWire.noOctets a.2 && RWire.noOctetsEntries r) = true from h2)
      obtain ⟨a3, b3⟩ := Bool.and_eq_true_iff.mp (show (RWire.noWide a.2 && RWire.noWideEntries r) = true from h3)
      rcases List.mem_cons.mp hy with rfl | hy
      · show (_ && (_ && _)) = true
        rw [a1, a2, a3]; rfl
      · exact ih b1 b2 b3 y hy
  obtain ⟨a, b⟩ := Bool.and_eq_true_iff.mp h
  obtain ⟨b, c⟩ := Bool.and_eq_true_iff.mp b
  exact key l a b c
/-- so many things read: the first, the rest -/
theorem many_cons {α : Type} {f : Oct → Option (α × Oct)} {n : Nat} {r : Oct} {xs : List α} {r2 : Oct} (h : RWire.readMany f (n + 1) r = some (xs, r2)) : ∃ x r1 ys, f r = some (x, r1) ∧ RWire.readMany f n r1 = some (ys, r2) ∧ xs = x :: ys := by
  have h0 : (match f r with | none => none | some p => match RWire.readMany f n p.2 with | none => none | some q => some (p.1 :: q.1, q.2)) = some (xs, r2) := h
  cases e : f r with
  | none => rw [e] at h0; cases h0
  | some p =>
    rw [e] at h0
    have h1 : (match RWire.readMany f n p.2 with | none => none | some q => some (p.1 :: q.1, q.2)) = some (xs, r2) := h0
    cases e2 : RWire.readMany f n p.2 with
    | none => rw [e2] at h1; cases h1
    | some q =>
      rw [e2] at h1
      injection h1 with h1
      injection h1 with h1 h2
      exact ⟨p.1, p.2, q.1, rfl, by rw [e2, ← h2], h1.symm⟩
theorem many_nil {α : Type} {f : Oct → Option (α × Oct)} {r : Oct} {xs : List α} {r2 : Oct} (h : RWire.readMany f 0 r = some (xs, r2)) : xs = [] ∧ r2 = r := by
  injection h with h
  injection h with h1 h2
  exact ⟨h1.symm, h2.symm⟩
theorem entry_eq {f : Oct → Option (Val × Oct)} {b : Oct} {e : RWire.Text × Val} {r : Oct} (h : RWire.readEntry f b = some (e, r)) : ∃ u r1, RWire.readText b = some (u, r1) ∧ f r1 = some (e.2, r) ∧ e.1 = u := by
  have h0 : (match RWire.readText b with | none => none | some p => match f p.2 with | none => none | some q => some ((p.1, q.1), q.2)) = some (e, r) := h
  cases e1 : RWire.readText b with
  | none => rw [e1] at h0; cases h0
  | some p =>
    rw [e1] at h0
    have h1 : (match f p.2 with | none => none | some q => some ((p.1, q.1), q.2)) = some (e, r) := h0
    cases e2 : f p.2 with
    | none => rw [e2] at h1; cases h1
    | some q =>
      rw [e2] at h1
      injection h1 with h1
      injection h1 with h1 h2
      subst h1
      exact ⟨p.1, p.2, rfl, by rw [e2, ← h2], rfl⟩
theorem hd_cases (h : Hd X R st rest) : ∃ k r, rest = k :: r ∧ ((plainK k.toNat = true ∧ ∃ x r1, RWire.readKind (RWire.readF (31 - st.length)) k.toNat r = some (x, r1) ∧ Dn X R st x r1) ∨
    ((k.toNat = 7 ∨ k.toNat = 8) ∧ st.length ≤ 31 ∧ ∃ m r1, RWire.readNum 4 r = some (m, r1) ∧ Af X R (⟨k.toNat, m, [], []⟩ :: st) r1)) := by
  obtain ⟨x, r1, h1, hg, hd⟩ := h
  cases e : 32 - st.length with
  | zero => rw [e] at h1; cases h1
  | succ n =>
    rw [e] at h1
    have en : n = 31 - st.length := by omega
    have le : st.length ≤ 31 := by omega
    subst en
    cases rest with
    | nil => cases h1
    | cons k r =>
      have h2 : RWire.readKind (RWire.readF (31 - st.length)) k.toNat r = some (x, r1) := h1
      refine ⟨k, r, rfl, ?_⟩
      generalize k.toNat = kn at h2 ⊢
      have bad : ∀ {y : Val}, good y = false → x = y → False := fun h z => by rw [z, h] at hg; cases hg
      match kn, h2 with
      | 0, h2 => exact .inl ⟨rfl, x, r1, h2, hd⟩
      | 1, h2 => exact .inl ⟨rfl, x, r1, h2, hd⟩
      | 2, h2 => exact .inl ⟨rfl, x, r1, h2, hd⟩
      | 3, h2 => exact .inl ⟨rfl, x, r1, h2, hd⟩
      | 4, h2 => exact .inl ⟨rfl, x, r1, h2, hd⟩
      | 6, h2 => exact .inl ⟨rfl, x, r1, h2, hd⟩
      | 5, h2 =>
        have h3 : RWire.readBig r = some (x, r1) := h2
        have : ∃ i, x = .big i := by
          unfold RWire.readBig at h3
          repeat (first | (split at h3) | (injection h3 with h3; injection h3 with h3 h4; exact ⟨_, h3.symm⟩) | cases h3)
        obtain ⟨i, rfl⟩ := this
        cases hg
      | 7, h2 =>
        have h3 : RWire.readList (RWire.readF (31 - st.length)) r = some (x, r1) := h2
        unfold RWire.readList at h3
        cases e1 : RWire.readNum 4 r with
        | none => rw [e1] at h3; cases h3
        | some p =>
          rw [e1] at h3
          have h4 : (match RWire.readMany (RWire.readF (31 - st.length)) p.1 p.2 with | none => none | some q => some (RWire.Value.list q.1, q.2)) = some (x, r1) := h3
          cases e2 : RWire.readMany (RWire.readF (31 - st.length)) p.1 p.2 with
          | none => rw [e2] at h4; cases h4
          | some q =>
            rw [e2] at h4
            injection h4 with h4
            injection h4 with h4 h5
            subst h4; subst h5
            exact .inr ⟨.inl rfl, le, p.1, p.2, rfl, .inl ⟨rfl, Nat.zero_le _, q.1, q.2, e2, good_list hg, hd⟩⟩
      | 8, h2 =>
        have h3 : RWire.readRecord (RWire.readF (31 - st.length)) r = some (x, r1) := h2
        unfold RWire.readRecord at h3
        cases e1 : RWire.readNum 4 r with
        | none => rw [e1] at h3; cases h3
        | some p =>
          rw [e1] at h3
          have h4 : (match RWire.readMany (RWire.readEntry (RWire.readF (31 - st.length))) p.1 p.2 with | none => none | some q => if RWire.apart q.1 then some (RWire.Value.record q.1, q.2) else none) = some (x, r1) := h3
          cases e2 : RWire.readMany (RWire.readEntry (RWire.readF (31 - st.length))) p.1 p.2 with
          | none => rw [e2] at h4; cases h4
          | some q =>
            rw [e2] at h4
            have h5 : (if RWire.apart q.1 then some (RWire.Value.record q.1, q.2) else none) = some (x, r1) := h4
            cases ea : RWire.apart q.1 with
            | false => rw [ea] at h5; cases h5
            | true =>
              rw [ea, if_pos rfl] at h5
              injection h5 with h5
              injection h5 with h5 h6
              subst h5; subst h6
              exact .inr ⟨.inr rfl, le, p.1, p.2, rfl, .inr ⟨rfl, rfl, Nat.zero_le _, q.1, q.2, e2, good_rec hg, ea, hd⟩⟩
      | 10, h2 =>
        have h3 : RWire.readOctets r = some (x, r1) := h2
        have : ∃ i, x = .octets i := by
          unfold RWire.readOctets at h3
          split at h3
          · cases h3
          · injection h3 with h3; injection h3 with h3 h4; exact ⟨_, h3.symm⟩
        obtain ⟨i, rfl⟩ := this
        cases hg
      | 11, h2 =>
        have h3 : RWire.readWide r = some (x, r1) := h2
        have : ∃ i, x = .wide i := by
          unfold RWire.readWide at h3
          repeat (first | (split at h3) | (injection h3 with h3; injection h3 with h3 h4; exact ⟨_, h3.symm⟩) | cases h3)
        obtain ⟨i, rfl⟩ := this
        cases hg
      | 9, h2 => cases h2
      | n + 12, h2 => cases h2
theorem af_done (h : Af X R (f :: st) rest) (e : f.mem.length = f.many) : Dn X R st f.val rest := by
  rcases h with ⟨hk, hl, xs, r2, h1, _, hd⟩ | ⟨hk, hn, hl, es, r2, h1, _, _, hd⟩
  · rw [e, Nat.sub_self] at h1
    obtain ⟨rfl, rfl⟩ := many_nil h1
    rw [List.append_nil] at hd
    unfold Frm.val; rw [if_pos hk]; exact hd
  · rw [e, Nat.sub_self] at h1
    obtain ⟨rfl, rfl⟩ := many_nil h1
    rw [List.append_nil] at hd
    unfold Frm.val; rw [if_neg (by omega)]; exact hd
theorem dn_push {x : Val} (h : Dn X R (f :: st) x rest) : Af X R (f.push x :: st) rest := h
theorem af_le (h : Af X R (f :: st) rest) : f.mem.length ≤ f.many := by
  rcases h with ⟨_, h, _⟩ | ⟨_, _, h, _⟩ <;> exact h
theorem af_kind (h : Af X R (f :: st) rest) : f.kind = 7 ∨ f.kind = 8 := by
  rcases h with ⟨h, _⟩ | ⟨h, _⟩
  · exact .inl h
  · exact .inr h
theorem af_nms (h : Af X R (f :: st) rest) (hk : f.kind = 8) : f.nms.length = f.mem.length := by
  rcases h with ⟨h, _⟩ | ⟨_, h, _⟩
  · omega
  · exact h
theorem af_list (h : Af X R (f :: st) rest) (hk : f.kind = 7) (e : f.mem.length ≠ f.many) : Hd X R (f :: st) rest := by
  rcases h with ⟨_, hl, xs, r2, h1, hg, hd⟩ | ⟨h, _⟩
  · obtain ⟨n, hn⟩ : ∃ n, f.many - f.mem.length = n + 1 := ⟨f.many - f.mem.length - 1, by omega⟩
    rw [hn] at h1
    obtain ⟨x, r1, ys, e1, e2, rfl⟩ := many_cons h1
    refine ⟨x, r1, by rw [List.length_cons, show 32 - (st.length + 1) = 31 - st.length by omega]; exact e1, hg x (List.mem_cons_self ..), .inl ⟨hk, ?_, ys, r2, ?_, fun y hy => hg y (List.mem_cons_of_mem _ hy), ?_⟩⟩
    · show (f.mem ++ [x]).length ≤ f.many
      rw [List.length_append]; show f.mem.length + 1 ≤ _; omega
    · show RWire.readMany _ (f.many - (f.mem ++ [x]).length) _ = _
      rw [List.length_append]
      show RWire.readMany _ (f.many - (f.mem.length + 1)) _ = _
      rw [show f.many - (f.mem.length + 1) = n by omega]
      exact e2
    · show Dn X R st (.list ((f.mem ++ [x]) ++ ys)) r2
      rw [List.append_assoc]
      exact hd
  · omega
theorem apart_mid : ∀ {l r : List (RWire.Text × Val)} {e : RWire.Text × Val}, RWire.apart (l ++ e :: r) = true → e.1 ∉ l.map (·.1)
  | [], _, _, _, h => by cases h
  | a :: l, r, e, h, hm => by
    obtain ⟨h1, h2⟩ := Bool.and_eq_true_iff.mp (show (!((l ++ e :: r).any fun x => x.1 == a.1) && RWire.apart (l ++ e :: r)) = true from h)
    rcases List.mem_cons.mp hm with z | z
    · have h3 : ((l ++ e :: r).any fun x => x.1 == a.1) = true := List.any_eq_true.mpr ⟨e, List.mem_append_right _ (List.mem_cons_self ..), by rw [z]; exact beq_self_eq_true _⟩
      rw [h3] at h1
      cases h1
    · exact apart_mid h2 z
theorem af_rec (h : Af X R (f :: st) rest) (hk : f.kind = 8) (e : f.mem.length ≠ f.many) : ∃ u r1, RWire.readText rest = some (u, r1) ∧ u ∉ f.nms ∧ Hd X R (f.name u :: st) r1 := by
  rcases h with ⟨h, _⟩ | ⟨_, hn, hl, es, r2, h1, hg, ha, hd⟩
  · omega
  · obtain ⟨n, hc⟩ : ∃ n, f.many - f.mem.length = n + 1 := ⟨f.many - f.mem.length - 1, by omega⟩
    rw [hc] at h1
    obtain ⟨e0, r0, ys, e1, e2, rfl⟩ := many_cons h1
    obtain ⟨u, r1, f1, f2, f3⟩ := entry_eq e1
    have hz : (f.nms.zip f.mem).map (·.1) = f.nms := by rw [List.map_fst_zip (by omega)]
    have hu : u ∉ f.nms := by
      have := apart_mid ha
      rw [hz, f3] at this
      exact this
    refine ⟨u, r1, f1, hu, e0.2, r0, by rw [List.length_cons, show 32 - (st.length + 1) = 31 - st.length by omega]; exact f2, hg e0 (List.mem_cons_self ..), .inr ⟨hk, ?_, ?_, ys, r2, ?_, fun y hy => hg y (List.mem_cons_of_mem _ hy), ?_⟩⟩
    · show (f.nms ++ [u]).length = (f.mem ++ [e0.2]).length
      rw [List.length_append, List.length_append, hn]; rfl
    · show (f.mem ++ [e0.2]).length ≤ f.many
      rw [List.length_append]; show f.mem.length + 1 ≤ _; omega
    · show RWire.readMany _ (f.many - (f.mem ++ [e0.2]).length) _ = _
      rw [List.length_append]
      show RWire.readMany _ (f.many - (f.mem.length + 1)) _ = _
      rw [show f.many - (f.mem.length + 1) = n by omega]
      exact e2
    · have ez : (f.nms ++ [u]).zip (f.mem ++ [e0.2]) ++ ys = f.nms.zip f.mem ++ e0 :: ys := by
        rw [List.zip_append hn, List.append_assoc]
        show f.nms.zip f.mem ++ ((u, e0.2) :: ys) = _
        rw [← f3]
      show RWire.apart ((f.nms ++ [u]).zip (f.mem ++ [e0.2]) ++ ys) = true ∧ Dn X R st (.record ((f.nms ++ [u]).zip (f.mem ++ [e0.2]) ++ ys)) r2
      rw [ez]
      exact ⟨ha, hd⟩
end Sl
/-! ## SlTv -/
namespace Sl
open PySem PySem.Spec PyProof.Rows L2 Evl
/-! ### the lists under way in the heap -/
def rg (M : List Addr) (H : Hp) : Hp := fun l => if l ∈ M then none else H l
theorem rg_some {M : List Addr} {H : Hp} {l : Addr} {o : HO} (h : rg M H l = some o) : l ∉ M ∧ H l = some o := by
  unfold rg at h
  split at h
  · cases h
  · exact ⟨by assumption, h⟩
theorem rg_at {M : List Addr} {H : Hp} {l : Addr} (h : l ∉ M) : rg M H l = H l := if_neg h
theorem rg_ex {M : List Addr} {H : Hp} : Ex (rg M H) H := fun l o h => (rg_some h).2
theorem rg_upd {M : List Addr} {H : Hp} {p : Addr} {o : HO} (h : p ∈ M) : rg M (upd H p o) = rg M H := funext fun l => by
  unfold rg
  split
  · rfl
  · rw [upd_ne (fun z => by subst z; contradiction)]
def FrmAt (K : PySem.W.Frag) (G H : Hp) (f : Frm) (a ml nl : Addr) : Prop := H a = some (.lst [.int f.kind, .int f.many, .ref ml, .ref nl]) ∧ (∃ vs, H ml = some (.lst vs) ∧ ValsAt K G vs f.mem) ∧ H nl = some (.lst (f.nms.map fun u => .str (enc u)))
def FrsAt (K : PySem.W.Frag) (G H : Hp) : List Frm → List V → List Addr → Prop
  | [], vs, as => vs = [] ∧ as = []
  | f :: st, vs, as => ∃ a ml nl us bs, vs = us ++ [.ref a] ∧ as = a :: ml :: nl :: bs ∧ FrmAt K G H f a ml nl ∧ FrsAt K G H st us bs
theorem FrmAt.keep {K : PySem.W.Frag} {G G' H H' : Hp} {f : Frm} {a ml nl : Addr} (k : ∀ l ∈ [a, ml, nl], ∀ o, H l = some o → H' l = some o) (e : Ex G G') (h : FrmAt K G H f a ml nl) : FrmAt K G' H' f a ml nl := by
  obtain ⟨h1, ⟨vs, h2, h3⟩, h4⟩ := h
  exact ⟨k a (by simp) _ h1, ⟨vs, k ml (by simp) _ h2, h3.mono e⟩, k nl (by simp) _ h4⟩
theorem FrsAt.keep {K : PySem.W.Frag} {G G' H H' : Hp} (e : Ex G G') : ∀ {st : List Frm} {vs : List V} {as : List Addr}, (∀ l ∈ as, ∀ o, H l = some o → H' l = some o) → FrsAt K G H st vs as → FrsAt K G' H' st vs as
  | [], vs, as, _, h => h
  | f :: st, vs, as, k, h => by
    obtain ⟨a, ml, nl, us, bs, rfl, rfl, h1, h2⟩ := h
    exact ⟨a, ml, nl, us, bs, rfl, rfl, h1.keep (fun l m => k l (by simp at m; rcases m with rfl | rfl | rfl <;> simp)) e, FrsAt.keep e (fun l m => k l (by simp [m])) h2⟩
theorem FrsAt.len {K : PySem.W.Frag} {G H : Hp} : ∀ {st : List Frm} {vs : List V} {as : List Addr}, FrsAt K G H st vs as → vs.length = st.length
  | [], vs, as, h => by rw [h.1]; rfl
  | f :: st, vs, as, h => by
    obtain ⟨a, ml, nl, us, bs, rfl, rfl, h1, h2⟩ := h
    rw [List.length_append, h2.len]; rfl
structure VC (K : PySem.W.Frag) (H0 : Hp) (r b w : Addr) (st : List Frm) (rest : Oct) (vs : List V) (as : List Addr) (H : Hp) : Prop where
  ex : Ex (L2.del H0 r) (rg (r :: w :: as) H)
  dom : Dom H0 H
  nd : (r :: w :: as).Nodup
  al : ∀ l ∈ r :: w :: as, H l ≠ none
  hw : H w = some (.lst vs)
  fr : FrsAt K (nw H0 (rg (r :: w :: as) H)) H st vs as
  rd : RdAt K H r b rest
  hb : b ∉ r :: w :: as
section
variable {K : PySem.W.Frag} {H0 H H1 : Hp} {r b w : Addr} {st : List Frm} {f : Frm} {rest rest1 : Oct} {vs us : List V} {as bs : List Addr}
theorem VC.out (h : VC K H0 r b w st rest vs as H) : Bt r H0 H := h.ex.trans rg_ex
theorem VC.new0 (h : VC K H0 r b w st rest vs as H) {l : Addr} (m : l ∈ w :: as) : H0 l = none := by
  have n : l ≠ r := fun z => (List.nodup_cons.mp h.nd).1 (z ▸ m)
  cases e : H0 l with
  | none => rfl
  | some o => exact absurd (List.mem_cons_of_mem _ m) (rg_some (h.ex l o (by rw [L2.del_ne n]; exact e))).1
theorem VC.take (h : VC K H0 r b w st rest vs as H) (e : Bt r H H1) (hr : RdAt K H1 r b rest1) : VC K H0 r b w st rest1 vs as H1 := by
  have nr := (List.nodup_cons.mp h.nd).1
  have k : ∀ l ∈ w :: as, ∀ o, H l = some o → H1 l = some o := fun l m o q => e.at (fun z => nr (z ▸ m)) q
  have rx : Ex (rg (r :: w :: as) H) (rg (r :: w :: as) H1) := fun l o q => by
    obtain ⟨q1, q2⟩ := rg_some q
    rw [rg_at q1]
    exact e.at (fun z => q1 (z ▸ List.mem_cons_self ..)) q2
  refine ⟨h.ex.trans rx, h.dom.trans fun l q => e.fresh q hr.some, h.nd, fun l m => ?_, k w (List.mem_cons_self ..) _ h.hw, h.fr.keep (nw_mono (Dom.refl _) rx) fun l m => k l (List.mem_cons_of_mem _ m), hr, h.hb⟩
  rcases List.mem_cons.mp m with rfl | m2
  · exact hr.some
  · cases q : H l with
    | none => exact absurd q (h.al l m)
    | some o => rw [k l m2 o q]; simp
theorem VC.ext (h : VC K H0 r b w st rest vs as H) (e : Ex H H1) : VC K H0 r b w st rest vs as H1 := h.take (Bt.of e) (h.rd.mono e)
/-- a new value of ours -/
theorem VC.val {v : V} {x : Val} (h : VC K H0 r b w st rest vs as H) (e : Bt r H H1) (hv : ValAt K (nw H H1) v x) : ValAt K (nw H0 (rg (r :: w :: as) H1)) v x := hv.mono fun l o q => by
  obtain ⟨q1, q2⟩ := nw_some q
  rw [nw_at (h.dom l q1), rg_at fun m => h.al l m q1]
  exact q2
theorem VC.mut {st' : List Frm} {vs' : List V} {p : Addr} {o : HO} (h : VC K H0 r b w st rest vs as H) (hp : p ∈ w :: as) (hw : upd H p o w = some (.lst vs')) (fr : FrsAt K (nw H0 (rg (r :: w :: as) H)) (upd H p o) st' vs' as) : VC K H0 r b w st' rest vs' as (upd H p o) := by
  have mp : p ∈ r :: w :: as := List.mem_cons_of_mem _ hp
  have pr : p ≠ r := fun z => (List.nodup_cons.mp h.nd).1 (z ▸ hp)
  have pb : b ≠ p := fun z => h.hb (z ▸ mp)
  refine ⟨by rw [rg_upd mp]; exact h.ex, fun l q => ?_, h.nd, fun l m => ?_, hw, by rw [rg_upd mp]; exact fr, ?_, h.hb⟩
  · by_cases z : l = p
    · subst z; rw [upd_same] at q; cases q
    · rw [upd_ne z] at q; exact h.dom l q
  · by_cases z : l = p
    · subst z; rw [upd_same]; simp
    · rw [upd_ne z]; exact h.al l m
  · obtain ⟨dx, l, n, h1, h2, h3⟩ := h.rd
    exact ⟨dx, l, n, by rw [upd_ne (Ne.symm pr)]; exact h1, by rw [upd_ne pb]; exact h2, h3⟩
/-- the top frame -/
theorem VC.top (h : VC K H0 r b w (f :: st) rest vs as H) : ∃ a ml nl us bs ws, vs = us ++ [.ref a] ∧ as = a :: ml :: nl :: bs ∧ H a = some (.lst [.int f.kind, .int f.many, .ref ml, .ref nl]) ∧ H ml = some (.lst ws) ∧ ValsAt K (nw H0 (rg (r :: w :: as) H)) ws f.mem ∧ H nl = some (.lst (f.nms.map fun u => .str (enc u))) ∧ ws.length = f.mem.length := by
  obtain ⟨a, ml, nl, us, bs, h1, h2, ⟨h3, ⟨ws, h4, h5⟩, h6⟩, h7⟩ := h.fr
  exact ⟨a, ml, nl, us, bs, ws, h1, h2, h3, h4, h5, h6, h5.len⟩
theorem nd_top {r w a ml nl : Addr} {bs : List Addr} (h : (r :: w :: a :: ml :: nl :: bs).Nodup) : w ≠ a ∧ w ≠ ml ∧ w ≠ nl ∧ a ≠ ml ∧ a ≠ nl ∧ ml ≠ nl ∧ w ∉ bs ∧ a ∉ bs ∧ ml ∉ bs ∧ nl ∉ bs := by
  simp only [List.nodup_cons, List.mem_cons, not_or] at h
  obtain ⟨_, ⟨h1, h2, h3, h4⟩, ⟨h5, h6, h7⟩, ⟨h8, h9⟩, h10, _⟩ := h
  exact ⟨h1, h2, h3, h5, h6, h8, h4, h7, h9, h10⟩
theorem VC.pushv {a ml nl : Addr} {ws : List V} {v : V} {x : Val} (h : VC K H0 r b w (f :: st) rest (us ++ [.ref a]) (a :: ml :: nl :: bs) H) (hm : H ml = some (.lst ws)) (ha : H a = some (.lst [.int f.kind, .int f.many, .ref ml, .ref nl])) (hv : ValAt K (nw H0 (rg (r :: w :: a :: ml :: nl :: bs) H)) v x) :
    VC K H0 r b w (f.push x :: st) rest (us ++ [.ref a]) (a :: ml :: nl :: bs) (upd H ml (.lst (ws ++ [v]))) := by
  obtain ⟨n1, n2, n3, n4, n5, n6, n7, n8, n9, n10⟩ := nd_top h.nd
  obtain ⟨a', ml', nl', us', bs', e1, e2, ⟨h3, ⟨ws', h4, h5⟩, h6⟩, h7⟩ := h.fr
  injection e2 with e3 e4
  injection e4 with e5 e6
  injection e6 with e7 e8
  subst e3; subst e5; subst e7; subst e8
  obtain ⟨rfl, _⟩ := List.append_inj' e1 rfl
  rw [hm] at h4
  injection h4 with h4
  injection h4 with h4
  subst h4
  refine h.mut (by simp) (by rw [upd_ne n2]; exact h.hw) ⟨a, ml, nl, us, bs, rfl, rfl, ⟨by rw [upd_ne n4]; exact h3, ⟨_, upd_same, h5.append (by unfold ValsAt; exact ⟨v, [], rfl, hv, by unfold ValsAt; rfl⟩)⟩, by rw [upd_ne n6.symm]; exact h6⟩, h7.keep (Ex.refl _) fun l m o q => ?_⟩
  rw [upd_ne (show l ≠ ml from fun z => n9 (z ▸ m))]
  exact q
theorem VC.named {a ml nl : Addr} {u : RWire.Text} (h : VC K H0 r b w (f :: st) rest (us ++ [.ref a]) (a :: ml :: nl :: bs) H) : VC K H0 r b w (f.name u :: st) rest (us ++ [.ref a]) (a :: ml :: nl :: bs) (upd H nl (.lst ((f.nms.map fun u => V.str (enc u)) ++ [.str (enc u)]))) := by
  obtain ⟨n1, n2, n3, n4, n5, n6, n7, n8, n9, n10⟩ := nd_top h.nd
  obtain ⟨a', ml', nl', us', bs', e1, e2, ⟨h3, ⟨ws', h4, h5⟩, h6⟩, h7⟩ := h.fr
  injection e2 with e3 e4
  injection e4 with e5 e6
  injection e6 with e7 e8
  subst e3; subst e5; subst e7; subst e8
  obtain ⟨rfl, _⟩ := List.append_inj' e1 rfl
  refine h.mut (by simp) (by rw [upd_ne n3]; exact h.hw) ⟨a, ml, nl, us, bs, rfl, rfl, ⟨by rw [upd_ne n5]; exact h3, ⟨ws', by rw [upd_ne n6]; exact h4, h5⟩, by rw [upd_same]; show _ = some (HO.lst ((f.nms ++ [u]).map _)); rw [List.map_append]; rfl⟩, h7.keep (Ex.refl _) fun l m o q => ?_⟩
  rw [upd_ne (show l ≠ nl from fun z => n10 (z ▸ m))]
  exact q
/-- a frame more -/
theorem VC.more {a ml nl : Addr} {k m : Nat} (h : VC K H0 r b w st rest vs as H) (e : Ex H H1) (na : H a = none) (nm : H ml = none) (nn : H nl = none) (d1 : a ≠ ml) (d2 : a ≠ nl) (d3 : ml ≠ nl) (ha : H1 a = some (.lst [.int k, .int m, .ref ml, .ref nl])) (hm : H1 ml = some (.lst [])) (hn : H1 nl = some (.lst [])) :
    VC K H0 r b w (⟨k, m, [], []⟩ :: st) rest (vs ++ [.ref a]) (a :: ml :: nl :: as) (upd H1 w (.lst (vs ++ [.ref a]))) := by
  have off : ∀ {p : Addr}, H p = none → p ∉ r :: w :: as := fun q z => h.al _ z q
  have oa := off na
  have om := off nm
  have on := off nn
  have h1 := h.ext e
  have aw : a ≠ w := fun z => oa (z ▸ by simp)
  have mw : ml ≠ w := fun z => om (z ▸ by simp)
  have nw' : nl ≠ w := fun z => on (z ▸ by simp)
  have nd : (r :: w :: a :: ml :: nl :: as).Nodup := by
    have n0 := h.nd
    simp only [List.nodup_cons, List.mem_cons, not_or] at n0 oa om on ⊢
    obtain ⟨⟨p1, p2⟩, p3, p4⟩ := n0
    exact ⟨⟨p1, Ne.symm oa.1, Ne.symm om.1, Ne.symm on.1, p2⟩, ⟨aw.symm, mw.symm, nw'.symm, p3⟩, ⟨d1, d2, oa.2.2⟩, ⟨d3, om.2.2⟩, on.2.2, p4⟩
  have bn : b ∉ r :: w :: a :: ml :: nl :: as := fun z => by
    obtain ⟨dx, l, n, _, hb, _⟩ := h.rd
    simp only [List.mem_cons] at z
    have hh := h.hb
    simp only [List.mem_cons, not_or] at hh
    rcases z with z | z | z | z | z | z
    · exact hh.1 z
    · exact hh.2.1 z
    · rw [z, na] at hb; cases hb
    · rw [z, nm] at hb; cases hb
    · rw [z, nn] at hb; cases hb
    · exact hh.2.2 z
  have rx : Ex (rg (r :: w :: as) H) (rg (r :: w :: a :: ml :: nl :: as) (upd H1 w (.lst (vs ++ [.ref a])))) := fun l o q => by
    obtain ⟨q1, q2⟩ := rg_some q
    simp only [List.mem_cons, not_or] at q1
    rw [rg_at (by
      simp only [List.mem_cons, not_or]
      exact ⟨q1.1, q1.2.1, ne_of_none q2 na, ne_of_none q2 nm, ne_of_none q2 nn, q1.2.2⟩), upd_ne q1.2.1]
    exact e _ _ q2
  have k1 : ∀ l, l ≠ w → upd H1 w (.lst (vs ++ [.ref a])) l = H1 l := fun l q => upd_ne q
  refine ⟨h.ex.trans rx, fun l q => ?_, nd, fun l q => ?_, upd_same, ⟨a, ml, nl, vs, as, rfl, rfl, ⟨by rw [k1 a aw]; exact ha, ⟨[], by rw [k1 ml mw]; exact hm, by unfold ValsAt; rfl⟩, by rw [k1 nl nw']; exact hn⟩, h.fr.keep (nw_mono (Dom.refl _) rx) fun l q o z => ?_⟩, ?_, bn⟩
  · by_cases z : l = w
    · subst z; rw [upd_same] at q; cases q
    · rw [upd_ne z] at q; exact h.dom l (fresh_back e q)
  · by_cases z : l = w
    · subst z; rw [upd_same]; simp
    · rw [upd_ne z]
      simp only [List.mem_cons] at q
      rcases q with q | q | q | q | q | q
      · exact h1.al l (by simp [q])
      · exact absurd q z
      · rw [q, ha]; simp
      · rw [q, hm]; simp
      · rw [q, hn]; simp
      · exact h1.al l (by simp [q])
  · have lw : l ≠ w := fun y => by
      have n0 := h.nd
      simp only [List.nodup_cons] at n0
      exact n0.2.1 (y ▸ q)
    rw [k1 l lw]
    exact e _ _ z
  · obtain ⟨dx, l, n, g1, g2, g3⟩ := h1.rd
    have hh := h.hb
    simp only [List.mem_cons, not_or] at hh
    have rw' : r ≠ w := fun z => by
      have n0 := h.nd
      simp only [List.nodup_cons, List.mem_cons, not_or] at n0
      exact n0.1.1 z
    exact ⟨dx, l, n, by rw [k1 r rw']; exact g1, by rw [k1 b hh.2.1]; exact g2, g3⟩
/-- the top frame taken off: its list of members is ours -/
theorem VC.less {a ml nl : Addr} {ws : List V} (h : VC K H0 r b w (f :: st) rest (us ++ [.ref a]) (a :: ml :: nl :: bs) H) (hm : H ml = some (.lst ws)) :
    VC K H0 r b w st rest us bs (upd H w (.lst us)) ∧ ValsAt K (nw H0 (rg (r :: w :: bs) (upd H w (.lst us)))) ws f.mem ∧ ml ∉ r :: w :: bs ∧ H0 ml = none ∧ upd H w (.lst us) ml = some (.lst ws) ∧ upd H w (.lst us) nl = some (.lst (f.nms.map fun u => .str (enc u))) := by
  obtain ⟨n1, n2, n3, n4, n5, n6, n7, n8, n9, n10⟩ := nd_top h.nd
  obtain ⟨a', ml', nl', us', bs', e1, e2, ⟨h3, ⟨ws', h4, h5⟩, h6⟩, h7⟩ := h.fr
  injection e2 with e3 e4
  injection e4 with e5 e6
  injection e6 with e7 e8
  subst e3; subst e5; subst e7; subst e8
  obtain ⟨rfl, _⟩ := List.append_inj' e1 rfl
  rw [hm] at h4
  injection h4 with h4
  injection h4 with h4
  subst h4
  have sub : ∀ {l}, l ∈ r :: w :: bs → l ∈ r :: w :: a :: ml :: nl :: bs := fun m => by
    simp only [List.mem_cons] at m ⊢
    rcases m with m | m | m
    · exact .inl m
    · exact .inr (.inl m)
    · exact .inr (.inr (.inr (.inr (.inr m))))
  have rx : Ex (rg (r :: w :: a :: ml :: nl :: bs) H) (rg (r :: w :: bs) (upd H w (.lst us))) := fun l o q => by
    obtain ⟨q1, q2⟩ := rg_some q
    rw [rg_at fun m => q1 (sub m), upd_ne (show l ≠ w from fun z => q1 (by rw [z]; simp))]
    exact q2
  have mr : ml ∉ r :: w :: bs := fun m => by
    have n0 := h.nd
    simp only [List.nodup_cons, List.mem_cons, not_or] at n0 m
    rcases m with m | m | m
    · exact n0.1.2.2.1 m.symm
    · exact n2 m.symm
    · exact n9 m
  refine ⟨⟨h.ex.trans rx, fun l q => ?_, ?_, fun l q => ?_, upd_same, h7.keep (nw_mono (Dom.refl _) rx) fun l q o z => ?_, ?_, fun m => h.hb (sub m)⟩, h5.mono (nw_mono (Dom.refl _) rx), mr, h.new0 (by simp), by rw [upd_ne n2.symm]; exact hm, by rw [upd_ne n3.symm]; exact h6⟩
  · by_cases z : l = w
    · subst z; rw [upd_same] at q; cases q
    · rw [upd_ne z] at q; exact h.dom l q
  · have n0 := h.nd
    simp only [List.nodup_cons, List.mem_cons, not_or] at n0 ⊢
    exact ⟨⟨n0.1.1, n0.1.2.2.2.2⟩, n7, n0.2.2.2.2.2⟩
  · by_cases z : l = w
    · subst z; rw [upd_same]; simp
    · rw [upd_ne z]; exact h.al l (sub q)
  · rw [upd_ne (show l ≠ w from fun y => n7 (y ▸ q))]
    exact z
  · obtain ⟨dx, l, n, g1, g2, g3⟩ := h.rd
    have hh := h.hb
    simp only [List.mem_cons, not_or] at hh
    have n0 := h.nd
    simp only [List.nodup_cons, List.mem_cons, not_or] at n0
    exact ⟨dx, l, n, by rw [upd_ne n0.1.1]; exact g1, by rw [upd_ne hh.2.1]; exact g2, g3⟩
end
theorem atI_last (us : List V) (x : V) : atI (us ++ [x]) (-1) = some x := by
  unfold atI ixN
  rw [if_neg (by decide), if_pos (by rw [List.length_append, List.length_singleton]; omega)]
  show (us ++ [x])[(-1 + ((us ++ [x]).length : Int)).toNat]? = _
  rw [show (-1 + ((us ++ [x]).length : Int)).toNat = us.length by rw [List.length_append, List.length_singleton]; omega, List.getElem?_append_right (Nat.le_refl _), Nat.sub_self]
  rfl
def spTakeV (K : PySem.W.Frag) : Sp := fun vs H Q _ => ∃ (r b : Addr) (x : Val) (rest rest' : Oct), vs = [.ref r] ∧ RdAt K H r b rest ∧ RWire.readF 32 rest = some (x, rest') ∧ good x = true ∧ ∀ v H', Bt r H H' → RdAt K H' r b rest' → ValAt K (nw H H') v x → Q v H'
end Sl
/-! ## SlTv2 -/
namespace Sl
open PySem PySem.Spec PyProof.Rows L2 Evl
def BdH (st : List Frm) (n : Nat) : Prop := ∀ f ∈ st, f.mem.length + n ≤ 100000
def BdM (f : Frm) (st : List Frm) (n : Nat) : Prop := f.mem.length + n ≤ 100000 ∧ ∀ g ∈ st, g.mem.length + 1 + n ≤ 100000
abbrev tvS (r w : Addr) (a2 a3 a4 a5 a6 a7 : Option V) : L2.St := [some (.ref r), some (.ref w), a2, a3, a4, a5, a6, a7]
section
variable (K : PySem.W.Frag) (H0 : Hp) (r b w : Addr) (X : Val) (R : Oct)
def TvW (m : Nat) (σ : L2.St) (H : Hp) : Prop := ∃ st rst vs as a2 a3 a4 a5 a6 a7, rst.length = m ∧ Hd X R st rst ∧ BdH st rst.length ∧ σ = tvS r w a2 a3 a4 a5 a6 a7 ∧ VC K H0 r b w st rst vs as H
def TvM (m : Nat) (σ : L2.St) (H : Hp) : Prop := ∃ f st rst vs as a2 a3 a4 a5 a6 a7, rst.length < m ∧ Af X R (f :: st) rst ∧ BdM f st rst.length ∧ σ = tvS r w a2 a3 a4 a5 a6 a7 ∧ VC K H0 r b w (f :: st) rst vs as H
def TvE (m : Nat) (σ : L2.St) (H : Hp) : Prop := ∃ f st rst vs as a2 a3 a4 a5 a6 a7, rst.length < m ∧ f.mem.length ≠ f.many ∧ Af X R (f :: st) rst ∧ BdM f st rst.length ∧ σ = tvS r w a2 a3 a4 a5 a6 a7 ∧ VC K H0 r b w (f :: st) rst vs as H
def TvL (m k : Nat) (σ : L2.St) (H : Hp) : Prop := ∃ f st rst vs as a2 a3 a4 a5 a6 a7, st.length = k ∧ rst.length < m ∧ Af X R (f :: st) rst ∧ BdM f st rst.length ∧ σ = tvS r w a2 a3 a4 a5 a6 a7 ∧ VC K H0 r b w (f :: st) rst vs as H
end
section
variable {K : PySem.W.Frag} {H0 H F : Hp} {r b w : Addr} {X : Val} {R : Oct} {σ : L2.St} {st : List Frm} {f : Frm} {rst : Oct} {vs : List V} {as : List Addr}
theorem rg_mono {M : List Addr} {H H1 : Hp} (e : Ex H H1) : Ex (rg M H) (rg M H1) := fun l o z => by
  obtain ⟨z1, z2⟩ := rg_some z
  rw [rg_at z1]
  exact e _ _ z2
abbrev tTop (K : PySem.W.Frag) : TE := tOp (rIxL K) (tVar 1) (tUn (rU fun i => .int (-i)) (tC (.int 1)))
theorem ev_top {us : List V} {a : Addr} (h1 : σ[1]? = some (some (.ref w))) (hw : F w = some (.lst (us ++ [.ref a]))) : Ev (tTop K) σ F (.ref a) := ev_op (ev_var h1) (ev_un ev_c ru_neg) (rv_ixL (sq_of hw) (atI_last us (.ref a)))
theorem ev_topI {us fr : List V} {a : Addr} {v : V} {i : Int} (h1 : σ[1]? = some (some (.ref w))) (hw : F w = some (.lst (us ++ [.ref a]))) (ha : F a = some (.lst fr)) (hi : atI fr i = some v) : Ev (tOp (rIxL K) (tTop K) (tC (.int i))) σ F v := ev_op (ev_top h1 hw) ev_c (rv_ixL (sq_of ha) hi)
theorem ents_zip {G : Hp} (hG : ∀ t o, H t = some o → H0 t = none → F t = none → G t = some o) : ∀ {ts : List Addr} {nms : List RWire.Text} {ws : List V} {mem : List Val}, ts.length = nms.length → nms.length = mem.length → (∀ t ∈ ts, H0 t = none ∧ F t = none) →
    (∀ (i : Nat) (t : Addr) (x y : V), ts[i]? = some t → (nms.map fun u => V.str (enc u))[i]? = some x → ws[i]? = some y → H t = some (.tup [x, y])) → ValsAt K G ws mem → EntsAt K G (ts.map V.ref) (nms.zip mem)
  | [], [], ws, mem, _, _, _, _, _ => by unfold EntsAt; rfl
  | [], _ :: _, _, _, h, _, _, _, _ => by cases h
  | _ :: _, [], _, _, h, _, _, _, _ => by cases h
  | t :: ts, n :: nms, ws, [], _, h, _, _, _ => by cases h
  | t :: ts, n :: nms, ws, x :: mem, h1, h2, h3, h4, h5 => by
    unfold ValsAt at h5
    obtain ⟨v, us, rfl, h6, h7⟩ := h5
    show EntsAt K G (.ref t :: ts.map V.ref) ((n, x) :: nms.zip mem)
    unfold EntsAt
    obtain ⟨k1, k2⟩ := h3 t (List.mem_cons_self ..)
    exact ⟨.ref t, _, t, v, rfl, rfl, hG t _ (h4 0 t _ v rfl rfl rfl) k1 k2, h6, ents_zip hG (Nat.succ.inj h1) (Nat.succ.inj h2) (fun t m => h3 t (List.mem_cons_of_mem _ m)) (fun i t x y e1 e2 e3 => h4 (i + 1) t x y e1 e2 e3) h7⟩
end
theorem kind_le {f : Oct → Option (Val × Oct)} {k : Nat} {rr r1 : Oct} {x : Val} (hp : plainK k = true) (h : RWire.readKind f k rr = some (x, r1)) : r1.length ≤ rr.length := by
  have key : ∀ {m : Nat} {a c : Oct}, RWire.front m rr = some (a, c) → c.length ≤ rr.length := fun e => by
    obtain ⟨_, _, h3⟩ := front_eq e
    rw [h3, List.length_drop]; omega
  have num : ∀ {m n : Nat} {c : Oct}, RWire.readNum m rr = some (n, c) → c.length ≤ rr.length := fun {m n c} e => by
    unfold RWire.readNum at e
    cases hf : RWire.front m rr with
    | none => rw [hf] at e; cases e
    | some p => rw [hf] at e; injection e with e; injection e with _ e; rw [← e]; exact key (a := p.1) (c := p.2) hf
  have hk : k = 0 ∨ k = 1 ∨ k = 2 ∨ k = 3 ∨ k = 4 ∨ k = 6 := by unfold plainK at hp; simp at hp; omega
  rcases hk with rfl | rfl | rfl | rfl | rfl | rfl
  · injection h with h; injection h with _ h; rw [h]; exact Nat.le_refl _
  · injection h with h; injection h with _ h; rw [h]; exact Nat.le_refl _
  · injection h with h; injection h with _ h; rw [h]; exact Nat.le_refl _
  · injection h with h; injection h with _ h; rw [h]; exact Nat.le_refl _
  · have h2 : RWire.readInt rr = some (x, r1) := h
    unfold RWire.readInt at h2
    cases hn : RWire.readNum 8 rr with
    | none => rw [hn] at h2; cases h2
    | some p =>
      rw [hn] at h2
      have h3 : (if Nat.ble (RWire.intOf p.1).natAbs RWire.intMost then some (RWire.Value.int (RWire.intOf p.1), p.2) else none) = some (x, r1) := h2
      split at h3
      · injection h3 with h3; injection h3 with _ h3; rw [← h3]; exact num hn
      · cases h3
  · have h2 : RWire.readWords rr = some (x, r1) := h
    unfold RWire.readWords RWire.readText at h2
    cases hn : RWire.readNum 4 rr with
    | none => rw [hn] at h2; cases h2
    | some p =>
      rw [hn] at h2
      have h3 : (match RWire.front p.1 p.2 with | none => none | some p => some (RWire.Value.text p.1, p.2)) = some (x, r1) := h2
      cases hf : RWire.front p.1 p.2 with
      | none => rw [hf] at h3; cases h3
      | some s =>
        rw [hf] at h3
        injection h3 with h3
        injection h3 with _ h3
        obtain ⟨_, _, e⟩ := front_eq (x := s.1) (y := s.2) hf
        have := num hn
        rw [← h3, e, List.length_drop]; omega
local macro_rules
  | `(tactic| walk_at "ev") => `(tactic| first
    | exact ev_c
    | exact ev_var rfl
    | (refine' ev_fld ?k1 ?k2 ?k3 ?k4 ?k5; (case k1 => walk_at "ev"); (case k2 => assumption); (case k3 => exact Tx.cl (by assumption) rfl); (case k4 => exact Tx.na (by assumption) rfl); (case k5 => rfl))
    | (refine' ev_meth ?k1 ?k2 ?k3 ?k4 ?k5; (case k1 => walk_at "ev"); (case k2 => assumption); (case k3 => rfl); (case k4 => walk_at "ev"); (case k5 => walk_at "sp"))
    | (refine' ev_callG ?k1 ?k2; (case k1 => walk_at "ev"); (case k2 => walk_at "sp"))
    | (refine' ev_isN ?k1; (case k1 => walk_at "ev"))
    | (refine' ev_notN ?k1; (case k1 => walk_at "ev"))
    | (refine' ev_int ?k1 ?k2; (case k1 => walk_at "ev"); (case k2 => walk_at "ev"))
    | (refine' ev_sc ?k1 ?k2 ?k3; (case k1 => walk_at "ev"); (case k2 => walk_at "ev"); (case k3 => rfl))
    | (refine' ev_scn ?k1 ?k2 ?k3; (case k1 => walk_at "ev"); (case k2 => walk_at "ev"); (case k3 => rfl))
    | (refine' ev_notV ?k1; (case k1 => walk_at "ev"))
    | (refine' ev_andV ?k1 ?k2; (case k1 => walk_at "ev"); (case k2 => intro _; walk_at "ev"))
    | (refine' ev_orV ?k1 ?k2; (case k1 => walk_at "ev"); (case k2 => intro _; walk_at "ev"))
    | (refine' et_test ?k1; (case k1 => walk_at "ev"))
    | (refine' et_B ?k1; (case k1 => walk_at "ev"))
    | (refine' et_and ?k1 ?k2; (case k1 => walk_at "ev"); (case k2 => intro _; walk_at "ev"))
    | (refine' et_or ?k1 ?k2; (case k1 => walk_at "ev"); (case k2 => intro _; walk_at "ev"))
    | (refine' et_not ?k1; (case k1 => walk_at "ev"))
    | exact ea_nil
    | (refine' ea_cons ?k1 ?k2; (case k1 => walk_at "ev"); (case k2 => walk_at "ev")))
local macro_rules
  | `(tactic| walk_at "sp") => `(tactic| first | exact spR_go (by assumption) | exact spExc_go (by assumption))
section
variable {P : Program} {w : World} {K : PySem.W.Frag} {mg : Str → Option Value} {base : Heap}
theorem sc_Reader_take_value : FnScope ["self", "waiting", "kind", "value", "many", "members", "names", "name"] ["self"] d_Reader_take_value.scope := ⟨rfl, rfl, rfl, by decide +kernel, rfl, by decide +kernel, by decide +kernel⟩
theorem ok_Reader_take_value (T : Tx w K mg) : FnOk P w K mg base CX0 8 (He.ma K (He.ga K "Reader") "take_value") (fdOf K (He.ma K (He.ga K "Reader") "take_value")) ["self"] (spTakeV K) := by
  refine mkOk T.F_Reader_take_value ⟨rfl, rfl⟩ sc_Reader_take_value (fun vs H Q E h => ?_) (fun cdv A outer s H vs Q E hr h => ⟨_, (pss_cons (ps_set (i := 1) sc_Reader_take_value.nd rfl (Or.inl rfl) (pe_lst pa_nil)) (pss_one (ps_while PassesOwn.never (pt_val pe_bl) (pss_cons (ps_set (i := 2) sc_Reader_take_value.nd rfl (Or.inl rfl) (pe_ix ix_list (pe_meth (pv 0) T.c_Reader T.m_Reader_take (ok_Reader_take T) (hr.mono (by decide)) T.B_Reader_take .nil pass0 (pa_cons pe_int pa_nil)) pe_int (fun _ _ => rfl))) (pss_cut (ps_if (pt_cmpR op_in_seq (pv 2) (pe_tup (pa_cons (pe_gc rfl T.i_LIST) (pa_cons (pe_gc rfl T.i_RECORD) pa_nil))) rfl) (pss_cons (ps_expr (pe_bm PySem.F.plainAttrs_list PySem.F.slot_list_append PySem.F.type_list_append mt_append (pv 1) (pa_cons (pe_lst (pa_cons (pv 2) (pa_cons (pe_meth (pv 0) T.c_Reader T.m_Reader_take_number (ok_Reader_take_number T) (hr.mono (by decide)) T.B_Reader_take_number .nil pass0 (pa_cons pe_int pa_nil)) (pa_cons (pe_lst pa_nil) (pa_cons (pe_lst pa_nil) pa_nil))))) pa_nil))) (pss_one (ps_if (pt_cmpR op_gt (pe_callB call_len (by rfl) T.f_len (by decide +kernel) (pa_cons (pv 1) pa_nil)) (pe_gc rfl T.i_MOST_NEST) (nomark _)) (pss_one ps_never) pss_nil))) (pss_cons (ps_set (i := 3) sc_Reader_take_value.nd rfl (Or.inl rfl) (pe_meth (pv 0) T.c_Reader T.m_Reader_take_plain (ok_Reader_take_plain T) (hr.mono (by decide)) T.B_Reader_take_plain .nil pass0 (pa_cons (pv 2) pa_nil))) (pss_cons (ps_if (pt_cmpR op_eq (pe_callB call_len (by rfl) T.f_len (by decide +kernel) (pa_cons (pv 1) pa_nil)) pe_int (nomark _)) (pss_one (ps_ret (pv 3))) pss_nil) (pss_one (ps_expr (pe_bm PySem.F.plainAttrs_list PySem.F.slot_list_append PySem.F.type_list_append mt_append (pe_ix ix_list (pe_ix ix_list (pv 1) (pe_un un_neg pe_int) (fun _ _ => rfl)) pe_int (fun _ _ => rfl)) (pa_cons (pv 3) pa_nil))))))) (pss_cut (ps_while PassesOwn.never (PW.pt (pw_and (pt_cmpR op_gt (pe_callB call_len (by rfl) T.f_len (by decide +kernel) (pa_cons (pv 1) pa_nil)) pe_int (nomark _)) (pw_and1 (pt_cmpR op_eq (pe_callB call_len (by rfl) T.f_len (by decide +kernel) (pa_cons (pe_ix ix_list (pe_ix ix_list (pv 1) (pe_un un_neg pe_int) (fun _ _ => rfl)) pe_int (fun _ _ => rfl)) pa_nil)) (pe_ix ix_list (pe_ix ix_list (pv 1) (pe_un un_neg pe_int) (fun _ _ => rfl)) pe_int (fun _ _ => rfl)) (nomark _))))) (pss_cons (ps_asg (pe_bm0 PySem.F.plainAttrs_list PySem.F.slot_list_pop PySem.F.type_list_pop mt_pop (pv 1)) (pg_lst rfl (pgs_cons (pg_name (i := 2) sc_Reader_take_value.nd rfl (Or.inl rfl)) (pgs_cons (pg_name (i := 4) sc_Reader_take_value.nd rfl (Or.inl rfl)) (pgs_cons (pg_name (i := 5) sc_Reader_take_value.nd rfl (Or.inl rfl)) (pgs_cons (pg_name (i := 6) sc_Reader_take_value.nd rfl (Or.inl rfl)) pgs_nil)))))) (pss_cons (ps_set (i := 3) sc_Reader_take_value.nd rfl (Or.inl rfl) (pe_ifExp (pt_cmpR op_eq (pv 2) (pe_gc rfl T.i_LIST) (nomark _)) (pv 5) (pe_make T.k_Record (ok_Record_init T) (hr.mono (by decide)) rfl T.g_Record T.B_Record_init .nil pass0 (pa_cons (pe_listZip rfl (by rfl) T.f_list (by decide +kernel) (by rfl) T.f_zip (pa_cons (pv 6) (pa_cons (pv 5) pa_nil))) pa_nil)))) (pss_cons (ps_if (pt_cmpR op_eq (pe_callB call_len (by rfl) T.f_len (by decide +kernel) (pa_cons (pv 1) pa_nil)) pe_int (nomark _)) (pss_one (ps_ret (pv 3))) pss_nil) (pss_one (ps_expr (pe_bm PySem.F.plainAttrs_list PySem.F.slot_list_append PySem.F.type_list_append mt_append (pe_ix ix_list (pe_ix ix_list (pv 1) (pe_un un_neg pe_int) (fun _ _ => rfl)) pe_int (fun _ _ => rfl)) (pa_cons (pv 3) pa_nil)))))))) (pss_one (ps_if (pt_cmpR op_eq (pe_ix ix_list (pe_ix ix_list (pv 1) (pe_un un_neg pe_int) (fun _ _ => rfl)) pe_int (fun _ _ => rfl)) (pe_gc rfl T.i_RECORD) (nomark _)) (pss_cons (ps_set (i := 7) sc_Reader_take_value.nd rfl (Or.inl rfl) (pe_meth0 (pv 0) T.c_Reader T.m_Reader_take_text (ok_Reader_take_text T) (hr.mono (by decide)) T.B_Reader_take_text .nil pass0)) (pss_cons (ps_if (pt_cmpR op_in_seq (pv 7) (pe_ix ix_list (pe_ix ix_list (pv 1) (pe_un un_neg pe_int) (fun _ _ => rfl)) pe_int (fun _ _ => rfl)) rfl) (pss_one ps_never) pss_nil) (pss_one (ps_expr (pe_bm PySem.F.plainAttrs_list PySem.F.slot_list_append PySem.F.type_list_append mt_append (pe_ix ix_list (pe_ix ix_list (pv 1) (pe_un un_neg pe_int) (fun _ _ => rfl)) pe_int (fun _ _ => rfl)) (pa_cons (pv 7) pa_nil)))))) pss_nil)))))))), ?_⟩)
  · (repeat (first | exact congrArg List.length h.1 | obtain ⟨_, h⟩ := h))
  · obtain ⟨r, b, x, rest, rest', rfl, hrd, hx, hg, q⟩ := h
    refine ⟨sz_of (by show 0 ≤ 100000; decide), fun w hw => ?_⟩
    have hb0 : ∃ bo, H b = some bo := by obtain ⟨_, l, _, _, e, _⟩ := hrd; exact ⟨_, e⟩
    have hbr : b ≠ r := by obtain ⟨_, l, _, _, _, e, _⟩ := hrd; exact e
    have hrl : rest.length ≤ 100000 := by
      obtain ⟨_, l, n, _, _, _, _, e, z⟩ := hrd
      rw [← z, List.length_drop]; omega
    have hwr : r ≠ w := fun z => hrd.some (z ▸ hw)
    have hbw : b ≠ w := fun z => by obtain ⟨bo, e⟩ := hb0; rw [z, hw] at e; cases e
    have V0 : VC K H r b w [] rest [] [] (upd H w (.lst [])) := by
      refine ⟨fun l o z => ?_, Dom.of (Ex.new hw), by simp [hwr], fun l m => ?_, upd_same, ⟨rfl, rfl⟩, hrd.mono (Ex.new hw), by simp [hbr, hbw]⟩
      · by_cases lr : l = r
        · rw [lr, L2.del_same] at z; cases z
        · rw [L2.del_ne lr] at z
          have lw := ne_of_none z hw
          rw [rg_at (by simp [lr, lw]), upd_ne lw]
          exact z
      · simp only [List.mem_cons, List.not_mem_nil, or_false] at m
        rcases m with m | m
        · rw [m, upd_ne hwr]; exact hrd.some
        · rw [m, upd_same]; simp
    refine s_while (TvW K H r b w x rest') rest.length ⟨[], rest, [], [], none, none, none, none, none, none, rfl, ⟨x, rest', hx, hg, rfl, rfl⟩, fun f m => (nomatch m), rfl, V0⟩ fun m σ' H' hW => ⟨true, et_test ev_c, fun _ H1 x1 => ⟨fun σ2 H2 => ∃ m', m' < m ∧ TvW K H r b w x rest' m' σ2 H2, fun σ2 H2 h => h, ?_⟩, fun h => Bool.noConfusion h⟩
    obtain ⟨st, rst, vs, as, a2, a3, a4, a5, a6, a7, rfl, hd, bd, rfl, hv⟩ := hW
    have hv1 := hv.ext x1
    obtain ⟨k, rr, rfl, hc⟩ := hd_cases hd
    obtain ⟨dx, fs, hr1, hno⟩ := rd_meth hv1.rd
    refine ⟨_, rfl, r, dx, fs, rfl, hr1, hno "take" rfl, r, b, 1, k :: rr, [k], rr, rfl, hv1.rd, rfl, fun p H2 np bt hr2 hp => ⟨p, [.int (k.toNat : Int)], 0, .int (k.toNat : Int), rfl, rfl, sq_of hp, rfl, ?_⟩⟩
    have hv2 := hv1.take bt hr2
    have lvs := hv2.fr.len
    refine q_cut (M := TvM K H r b w x rest' (rr.length + 1)) ?_ fun σ3 H3 hM => ?_
    · refine s_if (b := decide (k.toNat = 7) || decide (k.toNat = 8)) (et_is (et_B (ev_inU (ev_var rfl) (eu_tup (ea_cons ev_c (ea_cons ev_c ea_nil)) (by show 2 ≤ 100000; decide)) rfl rfl)) ?_) (fun hb H3 x3 => ?_) (fun hb H3 x3 => ?_)
      · show (((7 : Int) == (k.toNat : Int)) || (((8 : Int) == (k.toNat : Int)) || false)) = _
        rw [Bool.or_false]
        congr 1 <;> (rw [Bool.eq_iff_iff]; simp; omega)
      · have hk78 : k.toNat = 7 ∨ k.toNat = 8 := by simpa using hb
        rcases hc with ⟨hp, _⟩ | ⟨_, le31, m2, r1, hn, haf⟩
        · unfold plainK at hp; simp at hp; omega
        have hv3 := hv2.ext x3
        refine ⟨_, rfl, Or.inl ⟨rfl, vs, sq_of hv3.hw⟩, _, rfl, ?_⟩
        obtain ⟨dx2, fs2, hr3, hno2⟩ := rd_meth hv3.rd
        refine ⟨_, rfl, r, dx2, fs2, rfl, hr3, hno2 "take_number" rfl, r, b, 4, m2, rr, r1, rfl, hv3.rd, by decide, hn, fun H4 bt4 hr4 => ?_⟩
        refine ⟨sz_of (by show 0 ≤ 100000; decide), fun ml hml => ⟨sz_of (by show 0 ≤ 100000; decide), fun nl hnl => ⟨sz_of (by show 4 ≤ 100000; decide), fun a ha => ?_⟩⟩⟩
        have hv4 := hv3.take bt4 hr4
        have d3 : nl ≠ ml := fun z => by rw [z, upd_same] at hnl; cases hnl
        have hnl4 : H4 nl = none := by rw [upd_ne d3] at hnl; exact hnl
        have d2 : a ≠ nl := fun z => by rw [z, upd_same] at ha; cases ha
        have d1 : a ≠ ml := fun z => by rw [upd_ne d2, z, upd_same] at ha; cases ha
        have ha4 : H4 a = none := by rw [upd_ne d2, upd_ne d1] at ha; exact ha
        have e4 := ((Ex.new (o := .lst []) hml).trans (Ex.new (o := .lst []) hnl)).trans (Ex.new (o := .lst [.int (k.toNat : Int), .int (m2 : Int), .ref ml, .ref nl]) ha)
        have hM := hv4.more (k := k.toNat) (m := m2) e4 ha4 hml hnl4 d1 d2 d3.symm upd_same (by rw [upd_ne d1.symm, upd_ne d3.symm]; exact upd_same) (by rw [upd_ne d2.symm]; exact upd_same)
        refine ⟨w, vs, .ref a, rfl, rfl, e4 _ _ hv4.hw, sz_lt (by omega), ?_⟩
        refine s_when (b := false) (et_is (et_B (ev_int (g := fun i j => .bl (decide (j < i))) (i := ((vs ++ [V.ref a]).length : Int)) (ev_len2 (ev_var rfl) (sq_of hM.hw)) ev_c)) ?_) (fun h => Bool.noConfusion h) (fun _ H5 x5 => ?_)
        · rw [List.length_append, lvs]
          exact decide_eq_false (by show ¬ (32 : Int) < ((st.length + 1 : Nat) : Int); omega)
        · have lr : r1.length ≤ rr.length := by
            unfold RWire.readNum at hn
            cases hf : RWire.front 4 rr with
            | none => rw [hf] at hn; cases hn
            | some pr =>
              rw [hf] at hn
              injection hn with hn
              injection hn with _ hn2
              obtain ⟨_, _, h3⟩ := front_eq (x := pr.1) (y := pr.2) hf
              rw [← hn2, h3, List.length_drop]; omega
          refine ⟨⟨k.toNat, m2, [], []⟩, st, r1, _, _, _, _, _, _, _, _, by omega, haf, ⟨?_, fun g gm => ?_⟩, rfl, hM.ext x5⟩
          · show 0 + r1.length ≤ _
            have := hM.rd
            obtain ⟨_, l, n, _, _, _, _, e, z⟩ := this
            rw [← z, List.length_drop]; omega
          · have := bd g gm
            rw [List.length_cons] at this
            omega
      · have hk78 : ¬ (k.toNat = 7 ∨ k.toNat = 8) := by simpa using hb
        rcases hc with ⟨hpl, x0, r1, hkd, hdn⟩ | ⟨hk, _⟩
        · have hv3 := hv2.ext x3
          obtain ⟨dx2, fs2, hr3, hno2⟩ := rd_meth hv3.rd
          refine ⟨_, rfl, r, dx2, fs2, rfl, hr3, hno2 "take_plain" rfl, _, rfl, r, b, k.toNat, _, x0, rr, r1, rfl, hv3.rd, hpl, hkd, fun v H4 bt4 hr4 hval => ?_⟩
          have hv4 := hv3.take bt4 hr4
          have hval4 := hv3.val bt4 hval
          refine q_when (b := decide (st.length = 0)) (et_is (et_B (ev_sc (x := .int (vs.length : Int)) (ev_len2 (ev_var rfl) (sq_of hv4.hw)) ev_c rfl)) ?_) (fun hb H5 x5 => ?_) (fun hb H5 x5 => ?_)
          · rw [lvs]
            exact decide_eq_decide.mpr ⟨fun z => by injection z with z; omega, fun z => by rw [z]; rfl⟩
          · have e0 := of_decide_eq_true hb
            match st, e0, hdn with
            | [], _, hdn =>
              obtain ⟨rfl, rfl⟩ := hdn
              exact s_ret (ev_var rfl) fun H6 x6 => q v H6 ((hv4.ext (x5.trans x6)).out) ((hv4.ext (x5.trans x6)).rd) (hval4.mono (nw_mono (Dom.refl _) (rg_ex.trans (x5.trans x6))))
          · have e0 := of_decide_eq_false hb
            match st, e0, hdn, hv4, bd with
            | f :: st', _, hdn, hv4, bd =>
              have hv5 := hv4.ext x5
              obtain ⟨a, ml, nl, us, bs, ws, rfl, rfl, ha, hm, hws, hn, hwl⟩ := hv5.top
              have bf := bd f (List.mem_cons_self ..)
              rw [List.length_cons] at bf
              have lr : r1.length ≤ rr.length := by
                obtain ⟨_, l, n, _, _, _, h7, h8, h9⟩ := hv3.rd
                exact kind_le hpl hkd
              have hval5 : ValAt K (nw H (rg (r :: w :: a :: ml :: nl :: bs) H5)) v x0 := hval4.mono (nw_mono (Dom.refl _) fun l o z => by
                obtain ⟨z1, z2⟩ := rg_some z
                rw [rg_at z1]
                exact x5 _ _ z2)
              refine s_app (xs := ws) hm (ev_topI rfl hv5.hw ha rfl) (ev_var rfl) (by omega) fun H6 x6 => ?_
              have hv6 := hv5.ext x6
              refine ⟨f.push x0, st', r1, _, _, _, _, _, _, _, _, by omega, dn_push hdn, ⟨?_, fun g gm => ?_⟩, rfl, hv6.pushv (x6 _ _ hm) (x6 _ _ ha) (hval5.mono (nw_mono (Dom.refl _) fun l o z => ?_))⟩
              · show (f.mem ++ [x0]).length + r1.length ≤ _
                rw [List.length_append]
                show f.mem.length + 1 + r1.length ≤ _
                omega
              · have := bd g (List.mem_cons_of_mem _ gm)
                rw [List.length_cons] at this
                omega
              · obtain ⟨z1, z2⟩ := rg_some z
                rw [rg_at z1]
                exact x6 _ _ z2
        · exact absurd hk hk78
    · obtain ⟨f, st, rst, vs, as, a2, a3, a4, a5, a6, a7, hlt, haf, hbd, rfl, hvc⟩ := hM
      refine q_cut (M := TvE K H r b w x rest' (rr.length + 1)) ?_ fun σ4 H4 hE => ?_
      · refine s_while (TvL K H r b w x rest' (rr.length + 1)) st.length ⟨f, st, rst, vs, as, _, _, _, _, _, _, rfl, hlt, haf, hbd, rfl, hvc⟩ fun k2 σ' H' hL => ?_
        obtain ⟨f, st, rst, vs, as, a2, a3, a4, a5, a6, a7, rfl, hlt, haf, hbd, rfl, hvc⟩ := hL
        obtain ⟨a, ml, nl, us, bs, ws, rfl, rfl, ha, hm, hws, hn, hwl⟩ := hvc.top
        refine ⟨decide (f.mem.length = f.many), et_is (et_and (et_B (ev_int (g := fun i j => .bl (decide (j < i))) (i := ((us ++ [V.ref a]).length : Int)) (ev_len2 (ev_var rfl) (sq_of hvc.hw)) ev_c)) fun _ => et_B (ev_sc (x := .int (ws.length : Int)) (y := .int (f.many : Int)) (ev_len2 (ev_topI rfl hvc.hw ha rfl) (sq_of hm)) (ev_topI rfl hvc.hw ha rfl) rfl)) ?_,
          fun hb H5 x5 => ⟨fun σ2 H2 => ∃ m', m' < st.length ∧ TvL K H r b w x rest' (rr.length + 1) m' σ2 H2, fun _ _ h => h, ?_⟩, fun hb H5 x5 => ?_⟩
        · rw [List.length_append, decide_eq_true (by show (0 : Int) < ((us.length + 1 : Nat) : Int); omega), Bool.true_and, hwl]
          exact decide_eq_decide.mpr ⟨fun z => by injection z with z; omega, fun z => by rw [z]⟩
        · have e0 := of_decide_eq_true hb
          have hv5 := hvc.ext x5
          have hdn := af_done haf e0
          refine ⟨_, rfl, Or.inl ⟨rfl, us ++ [.ref a], sq_of hv5.hw⟩, w, us ++ [.ref a], .ref a, rfl, rfl, hv5.hw, by simp, ?_⟩
          rw [List.dropLast_concat]
          obtain ⟨hv6, hws6, mlM, ml0, hml6, hnl6⟩ := hv5.less (x5 _ _ hm)
          have aw : a ≠ w := fun z => (nd_top hvc.nd).1 z.symm
          refine ⟨a, [.int f.kind, .int f.many, .ref ml, .ref nl], rfl, sq_of (by rw [upd_ne aw]; exact x5 _ _ ha), rfl, _, _, rfl, _, _, rfl, _, _, rfl, _, _, rfl, rfl, ?_⟩
          have lus := hv6.fr.len
          have hval : ∀ E0 : XK, Eg (tIf (tB (tOp rEq (tVar 2) (tC (.int 7)))) (tVar 5) (tMake (He.ga K "Record") (spFields (He.ga K "Record") 1 recF) [] E0 (tCons (tListZip K (tCons (tVar 6) (tCons (tVar 5) tNil))) tNil))) (tvS r w (some (.int f.kind)) a3 (some (.int f.many)) (some (.ref ml)) (some (.ref nl)) a7) (upd H5 w (.lst us)) fun v G => ValAt K (nw H (rg (r :: w :: bs) G)) v f.val := by
            intro E0
            refine eg_if (b := decide (f.kind = 7)) (et_is (et_B (ev_sc (ev_var rfl) ev_c rfl)) (decide_eq_decide.mpr ⟨fun z => by injection z with z; omega, fun z => by rw [z]; rfl⟩)) (fun hk => ?_) fun hk => ?_
            · have ek := of_decide_eq_true hk
              refine eg_ev (ev_var rfl) fun H7 x7 => ?_
              unfold Frm.val
              rw [if_pos ek]
              unfold ValAt
              exact ⟨ml, ws, rfl, by rw [nw_at ml0, rg_at mlM]; exact x7 _ _ hml6, hws6.mono (nw_mono (Dom.refl _) (rg_mono x7))⟩
            · have ek := of_decide_eq_false hk
              have ek8 : f.kind = 8 := (af_kind haf).resolve_left ek
              have hnm := af_nms haf ek8
              intro H7 x7 Q7 q7
              refine ⟨_, rfl, _, rfl, nl, ml, _, ws, rfl, sq_of (x7 _ _ hnl6), sq_of (x7 _ _ hml6), by rw [List.length_map]; omega, fun p ts H8 np nts x8 hp hz => ?_⟩
              intro y dx ny nd ne
              refine ⟨y, dx, [.ref p], rfl, rfl, upd_same, fun H9 h9 k9 => ⟨rfl, ?_⟩⟩
              have x9 : Ex H8 H9 := fun bb o z => Same.made ny nd k9 bb o z
              have hv7 := hv6.ext x7
              have hv9 := hv7.ext (x8.trans x9)
              have dom7 := hv7.dom
              have inG : ∀ l o, H9 l = some o → H l = none → H7 l = none → nw H (rg (r :: w :: bs) H9) l = some o := fun l o z z1 z2 => by
                rw [nw_at z1, rg_at fun m => hv7.al l m z2]
                exact z
              refine q7 (.ref y) H9 (x8.trans x9) ?_
              unfold Frm.val
              rw [if_neg ek]
              unfold ValAt
              have y7 : H7 y = none := fresh_back x8 ny
              refine ⟨y, dx, p, ts.map V.ref, rfl, inG y _ h9 (dom7 y y7) y7, inG p _ (x9 _ _ hp) (dom7 p np) np, ents_zip (H := H9) (F := H7) (H0 := H) (ws := ws) (fun t o z z1 z2 => inG t o z z1 z2) (by rw [hz.1, List.length_map]) (by omega) (fun t m => ⟨dom7 t (nts t m), nts t m⟩) (fun i t u v e1 e2 e3 => x9 _ _ (hz.2 i t u v e1 e2 e3)) (hws6.mono (nw_mono (Dom.refl _) (rg_mono (x7.trans (x8.trans x9)))))⟩
          refine pr_asgG (hval _) (fun v H6 x6 hv => ?_) _ (Ex.refl _)
          have hv7 := hv6.ext x6
          intro H7 x7
          refine q_when (b := decide (st.length = 0)) (et_is (et_B (ev_sc (x := .int (us.length : Int)) (ev_len2 (ev_var rfl) (sq_of (hv7.ext x7).hw)) ev_c rfl)) ?_) (fun hb H8 x8 => ?_) (fun hb H8 x8 => ?_)
          · rw [lus]
            exact decide_eq_decide.mpr ⟨fun z => by injection z with z; omega, fun z => by rw [z]; rfl⟩
          · have e1 := of_decide_eq_true hb
            match st, e1, hdn with
            | [], _, hdn =>
              obtain ⟨e2, rfl⟩ := hdn
              rw [e2] at hv
              exact s_ret (ev_var rfl) fun H9 x9 => q v H9 (hv7.ext (x7.trans (x8.trans x9))).out (hv7.ext (x7.trans (x8.trans x9))).rd (hv.mono (nw_mono (Dom.refl _) (rg_ex.trans (x7.trans (x8.trans x9)))))
          · have e1 := of_decide_eq_false hb
            match st, e1, hdn, hv7, hbd, hlt with
            | g :: st', _, hdn, hv7, hbd, hlt =>
              have hv8 := hv7.ext (x7.trans x8)
              obtain ⟨a', ml', nl', us', bs', ws', rfl, rfl, ha', hm', hws', hn', hwl'⟩ := hv8.top
              have bf := hbd.2 g (List.mem_cons_self ..)
              refine s_app (xs := ws') hm' (ev_topI rfl hv8.hw ha' rfl) (ev_var rfl) (by omega) fun H9 x9 => ?_
              have hv9 := hv8.ext x9
              refine ⟨st'.length, Nat.lt_succ_self _, g.push f.val, st', rst, _, _, _, _, _, _, _, _, rfl, hlt, dn_push hdn, ⟨?_, fun g2 gm => hbd.2 g2 (List.mem_cons_of_mem _ gm)⟩, rfl, hv9.pushv (x9 _ _ hm') (x9 _ _ ha') (hv.mono (nw_mono (Dom.refl _) (rg_mono (x7.trans (x8.trans x9)))))⟩
              show (g.mem ++ [f.val]).length + rst.length ≤ _
              rw [List.length_append]
              show g.mem.length + 1 + rst.length ≤ _
              omega
        · exact ⟨f, st, rst, _, _, _, _, _, _, _, _, hlt, of_decide_eq_false hb, haf, hbd, rfl, hvc.ext x5⟩
      · obtain ⟨f, st, rst, vs, as, a2, a3, a4, a5, a6, a7, hlt, hne, haf, hbd, rfl, hvc⟩ := hE
        obtain ⟨a, ml, nl, us, bs, ws, rfl, rfl, ha, hm, hws, hn, hwl⟩ := hvc.top
        refine s_when (b := decide (f.kind = 8)) (et_is (et_B (ev_sc (x := .int (f.kind : Int)) (ev_topI rfl hvc.hw ha rfl) ev_c rfl)) (decide_eq_decide.mpr ⟨fun z => by injection z with z; omega, fun z => by rw [z]; rfl⟩)) (fun hb H5 x5 => ?_) (fun hb H5 x5 => ?_)
        · have ek := of_decide_eq_true hb
          obtain ⟨u, r1, ht, hu, hd1⟩ := af_rec haf ek hne
          have hnm := af_nms haf ek
          have hv5 := hvc.ext x5
          obtain ⟨dx2, fs2, hr3, hno2⟩ := rd_meth hv5.rd
          refine ⟨_, rfl, r, dx2, fs2, rfl, hr3, hno2 "take_text" rfl, r, b, u, rst, r1, rfl, hv5.rd, ht, fun H6 bt6 hr6 => ?_⟩
          have hv6 := hv5.take bt6 hr6
          have nr := (List.nodup_cons.mp hvc.nd).1
          have kk : ∀ l ∈ w :: a :: ml :: nl :: bs, ∀ o, H4 l = some o → H6 l = some o := fun l m o z => bt6.at (fun y => nr (y ▸ m)) (x5 _ _ z)
          have ha6 := kk a (by simp) _ ha
          have hn6 := kk nl (by simp) _ hn
          refine q_when (b := false) (et_is (et_B (ev_op (ev_var rfl) (ev_topI (i := 3) rfl hv6.hw ha6 rfl) (rv_isL (sq_of hn6) rfl (by rw [List.all_map, List.all_eq_true]; intro o _; rfl)))) ?_) (fun h => Bool.noConfusion h) (fun _ H7 x7 => ?_)
          · unfold inV
            rw [List.any_map]
            refine Bool.eq_false_iff.mpr fun z => ?_
            obtain ⟨n, hn1, hn2⟩ := List.any_eq_true.mp z
            exact hu (by
              have : enc n = enc u := eq_of_beq (show (enc n == enc u) = true from hn2)
              rw [← enc_inj this]; exact hn1)
          · have hv7 := hv6.ext x7
            have lr : r1.length ≤ rst.length := by
              unfold RWire.readText at ht
              cases h4 : RWire.readNum 4 rst with
              | none => rw [h4] at ht; cases ht
              | some p =>
                rw [h4] at ht
                obtain ⟨_, _, e1⟩ := front_eq (k := p.1) (l := p.2) ht
                unfold RWire.readNum at h4
                cases h5 : RWire.front 4 rst with
                | none => rw [h5] at h4; cases h4
                | some s =>
                  rw [h5] at h4
                  injection h4 with h4
                  obtain ⟨_, _, e2⟩ := front_eq (x := s.1) (y := s.2) h5
                  have e3 : p.2 = s.2 := by rw [← h4]
                  rw [e1, List.length_drop, e3, e2, List.length_drop]; omega
            have bf := hbd.1
            have hnl : f.mem.length < 100000 := by
              have := af_le haf
              have h8 : 1 ≤ rst.length := by
                cases rst with
                | nil => exfalso; unfold RWire.readText RWire.readNum at ht; cases ht
                | cons _ _ => simp
              omega
            refine s_app (x7 _ _ hn6) (ev_topI rfl hv7.hw (x7 _ _ ha6) rfl) (ev_var rfl) (by rw [List.length_map]; omega) fun H8 x8 => ?_
            have hv8 := hv7.ext x8
            refine ⟨r1.length, by show r1.length < rr.length + 1; omega, f.name u :: st, r1, _, _, _, _, _, _, _, _, rfl, hd1, fun g gm => ?_, rfl, hv8.named⟩
            rcases List.mem_cons.mp gm with rfl | gm
            · show f.mem.length + _ ≤ _; omega
            · have := hbd.2 g gm; omega
        · have ek : f.kind = 7 := (af_kind haf).resolve_right (of_decide_eq_false hb)
          refine ⟨rst.length, hlt, f :: st, rst, _, _, _, _, _, _, _, _, rfl, af_list haf ek hne, fun g gm => ?_, rfl, hvc.ext x5⟩
          rcases List.mem_cons.mp gm with rfl | gm
          · exact hbd.1
          · have := hbd.2 g gm; omega
end
end Sl
/-! ## SlReq -/
namespace Sl
open PySem PySem.Spec PyProof.Rows L2 Evl
def spReq (K : PySem.W.Frag) : Sp := fun vs H Q _ => ∃ (b : Addr) (l : List UInt8) (d : Nat) (args : List Val), vs = [.ref b] ∧ H b = some (.lst (bytesV l)) ∧ l.length ≤ 100000 ∧ RWire.readRequest l = some (d, args) ∧ (∀ y ∈ args, good y = true) ∧ args.length ≤ 255 ∧
  ∀ p al us H', Ex H H' → H' p = some (.tup [.int d, .ref al]) → H' al = some (.lst us) → H al = none → H p = none → p ≠ al → ValsAt K (nw H H') us args → Q (.ref p) H'
theorem Bt.ex' {r Dl : Addr} {H1 H4 : Hp} {o : HO} (e : Bt r H1 H4) (hD : H1 Dl = none) : Bt r H1 (L2.upd H4 Dl o) := fun l u h => by
  have q : l ≠ Dl := fun z => by
    by_cases y : l = r
    · rw [y, L2.del_same] at h; cases h
    · rw [L2.del_ne y, z, hD] at h; cases h
  rw [upd_ne q]
  exact e l u h
/-- the arguments, one after another -/
theorem lc_args {K : PySem.W.Frag} {H1 : Hp} {r b : Addr} {rest : Oct} {args : List Val} {n : Nat} {σ : L2.St} {E : XK} {Dl : Addr} {Qd : Hp → Prop} (hs : σ[1]? = some (some (.ref r))) (hl : σ.length = 6) (hD : H1 Dl = none) (hrd : RdAt K H1 r b rest) (hn : n ≤ 255) (hm : RWire.readMany (RWire.readF 32) n rest = some (args, [])) (hg : ∀ y ∈ args, good y = true)
    (hd : ∀ us H, Bt r H1 H → RdAt K H r b [] → H Dl = some (.lst us) → ValsAt K (nw (upd H1 Dl (.lst [])) H) us args → Qd H) :
    ∃ W : Nat → Nat → Hp → Prop, (∃ m, W 0 m (upd H1 Dl (.lst []))) ∧ ∀ i m H, W i m H →
      ((Itr 0 n).stop i H ∧ Qd H) ∨ ((Itr 0 n).go i H ∧ ∃ Nx : Hp → Prop, (∀ H', Nx H' → ∃ m', m' < m ∧ W (i + 1) m' H') ∧ ∀ x H', (Itr 0 n).yld i H x H' → gName 5 x (wipe σ [5]) H' fun σ2 H2 => wipe σ2 [5] = wipe σ [5] ∧ tYes σ2 H2 fun b H3 =>
        if b = true then tMeth (He.ga K "Reader") "take_value" (spTakeV K) [] E (tVar 1) tNil σ2 H3 fun y H4 => ∃ acc, H4 Dl = some (.lst acc) ∧ acc.length < sizeLine ∧ Nx (upd H4 Dl (.lst (acc ++ [y]))) else Nx H3) := by
  have nrD : r ≠ Dl := fun z => hrd.some (z ▸ hD)
  have nbD : b ≠ Dl := fun z => by obtain ⟨_, _, _, _, e, _⟩ := hrd; rw [z, hD] at e; cases e
  let B := upd H1 Dl (.lst [])
  have Bd : B Dl ≠ none := by show upd H1 Dl (.lst []) Dl ≠ none; rw [upd_same]; simp
  have Br : B r ≠ none := by show upd H1 Dl (.lst []) r ≠ none; rw [upd_ne nrD]; exact hrd.some
  refine ⟨fun i m H => m = n - i ∧ i ≤ n ∧ Bt r H1 H ∧ Dom B H ∧ ∃ us done rst xs, RdAt K H r b rst ∧ RWire.readMany (RWire.readF 32) (n - i) rst = some (xs, []) ∧ args = done ++ xs ∧ us.length = i ∧ H Dl = some (.lst us) ∧ ValsAt K (nw B H) us done, ⟨n, rfl, Nat.zero_le _, Bt.of (Ex.new hD), Dom.refl _, [], [], rest, args, hrd.mono (Ex.new hD), hm, rfl, rfl, upd_same, by unfold ValsAt; rfl⟩, ?_⟩
  rintro i m H ⟨rfl, hi, bt, dB, us, done, rst, xs, hr, hx, rfl, hu, hl2, hv⟩
  rcases Nat.lt_or_ge i n with h | h
  · refine .inr ⟨h, fun H' => Bt r H1 H' ∧ Dom B H' ∧ ∃ us done rst xs', RdAt K H' r b rst ∧ RWire.readMany (RWire.readF 32) (n - (i + 1)) rst = some (xs', []) ∧ (_ : List Val) = done ++ xs' ∧ us.length = i + 1 ∧ H' Dl = some (.lst us) ∧ ValsAt K (nw B H') us done, fun H' z => ⟨n - (i + 1), by omega, rfl, h, z⟩, fun x H' hy => ?_⟩
    obtain ⟨rfl, hx1⟩ := hy
    refine ⟨by simp [wipe, List.set_set], ?_⟩
    obtain ⟨y, r1, ys, e1, e2, rfl⟩ := many_cons (n := n - (i + 1)) (by rw [show n - (i + 1) + 1 = n - i by omega]; exact hx)
    obtain ⟨dx, fs, hr1, hno⟩ := rd_meth hr
    refine iteT (B := True) ⟨.ref r, ?_, r, dx, fs, rfl, hr1, hno "take_value" rfl, r, b, y, rst, r1, rfl, hr, e1, hg y (by simp), fun v H4 bt4 hr4 hval => ⟨us, bt4.at nrD.symm hl2, sz_lt (by omega), ?_⟩⟩
    · have hs2 : (wipe σ [5])[1]? = some (some (.ref r)) := by
        show (σ.set 5 none)[1]? = _
        rw [List.getElem?_set_ne (by decide)]; exact hs
      rw [List.getElem?_set_ne (by decide)]
      exact hs2
    · have hv4 : ValsAt K (nw B H4) us done := hv.mono fun l o z => by
        obtain ⟨z1, z2⟩ := nw_some z
        rw [nw_at z1]
        exact bt4.at (fun y => Br (y ▸ z1)) z2
      refine ⟨(bt.trans bt4).ex' hD, fun l z => ?_, us ++ [v], done ++ [y], r1, ys, ?_, e2, by simp, by simp [hu], upd_same, ?_⟩
      · by_cases q : l = Dl
        · subst q; rw [upd_same] at z; cases z
        · rw [upd_ne q] at z
          exact dB l (bt4.fresh z hr4.some)
      · obtain ⟨dx4, l4, n4, g1, g2, g3⟩ := hr4
        exact ⟨dx4, l4, n4, by rw [upd_ne nrD]; exact g1, by rw [upd_ne nbD]; exact g2, g3⟩
      · rw [nw_keep Bd]
        exact hv4.append (by unfold ValsAt; exact ⟨v, [], rfl, hval.mono (nw_mono dB (Ex.refl _)), by unfold ValsAt; rfl⟩)
  · have e : i = n := Nat.le_antisymm hi h
    subst e
    rw [Nat.sub_self] at hx
    obtain ⟨rfl, rfl⟩ := many_nil hx
    rw [List.append_nil] at hd
    exact .inl ⟨Nat.le_refl _, hd us H bt hr hl2 hv⟩
local macro_rules
  | `(tactic| walk_at "ev") => `(tactic| first
    | exact ev_c
    | exact ev_var rfl
    | (refine' ev_fld ?k1 ?k2 ?k3 ?k4 ?k5; (case k1 => walk_at "ev"); (case k2 => assumption); (case k3 => exact Tx.cl (by assumption) rfl); (case k4 => exact Tx.na (by assumption) rfl); (case k5 => rfl))
    | (refine' ev_meth ?k1 ?k2 ?k3 ?k4 ?k5; (case k1 => walk_at "ev"); (case k2 => assumption); (case k3 => rfl); (case k4 => walk_at "ev"); (case k5 => walk_at "sp"))
    | (refine' ev_callG ?k1 ?k2; (case k1 => walk_at "ev"); (case k2 => walk_at "sp"))
    | (refine' ev_isN ?k1; (case k1 => walk_at "ev"))
    | (refine' ev_notN ?k1; (case k1 => walk_at "ev"))
    | (refine' ev_int ?k1 ?k2; (case k1 => walk_at "ev"); (case k2 => walk_at "ev"))
    | (refine' ev_sc ?k1 ?k2 ?k3; (case k1 => walk_at "ev"); (case k2 => walk_at "ev"); (case k3 => rfl))
    | (refine' ev_scn ?k1 ?k2 ?k3; (case k1 => walk_at "ev"); (case k2 => walk_at "ev"); (case k3 => rfl))
    | (refine' ev_notV ?k1; (case k1 => walk_at "ev"))
    | (refine' ev_andV ?k1 ?k2; (case k1 => walk_at "ev"); (case k2 => intro _; walk_at "ev"))
    | (refine' ev_orV ?k1 ?k2; (case k1 => walk_at "ev"); (case k2 => intro _; walk_at "ev"))
    | (refine' et_test ?k1; (case k1 => walk_at "ev"))
    | (refine' et_B ?k1; (case k1 => walk_at "ev"))
    | (refine' et_and ?k1 ?k2; (case k1 => walk_at "ev"); (case k2 => intro _; walk_at "ev"))
    | (refine' et_or ?k1 ?k2; (case k1 => walk_at "ev"); (case k2 => intro _; walk_at "ev"))
    | (refine' et_not ?k1; (case k1 => walk_at "ev"))
    | exact ea_nil
    | (refine' ea_cons ?k1 ?k2; (case k1 => walk_at "ev"); (case k2 => walk_at "ev")))
local macro_rules
  | `(tactic| walk_at "sp") => `(tactic| first | exact spR_go (by assumption) | exact spExc_go (by assumption))
section
variable {P : Program} {w : World} {K : PySem.W.Frag} {mg : Str → Option Value} {base : Heap}
theorem sc_read_request : FnScope ["octets", "reader", "door", "many", "arguments", "k"] ["octets"] d_read_request.scope := ⟨rfl, rfl, rfl, by decide +kernel, rfl, by decide +kernel, by decide +kernel⟩
theorem ok_read_request (T : Tx w K mg) : FnOk P w K mg base CX0 9 (He.ga K "read_request") (fdOf K (He.ga K "read_request")) ["octets"] (spReq K) := by
  refine mkOk T.F_read_request ⟨rfl, rfl⟩ sc_read_request (fun vs H Q E h => ?_) (fun cdv A outer s H vs Q E hr h => ⟨_, (pss_cons (ps_set (i := 1) sc_read_request.nd rfl (Or.inr rfl) (pe_make T.k_Reader (ok_Reader_init T) (hr.mono (by decide)) rfl T.g_Reader T.B_Reader_init .nil pass0 (pa_cons (pv 0) pa_nil))) (pss_cons (ps_par (i := 2) (j := 3) rfl sc_read_request.nd rfl rfl (by decide) rfl rfl (pa_cons (pe_meth (pv 1) T.c_Reader T.m_Reader_take_number (ok_Reader_take_number T) (hr.mono (by decide)) T.B_Reader_take_number .nil pass0 (pa_cons pe_int pa_nil)) (pa_cons (pe_meth (pv 1) T.c_Reader T.m_Reader_take_number (ok_Reader_take_number T) (hr.mono (by decide)) T.B_Reader_take_number .nil pass0 (pa_cons pe_int pa_nil)) pa_nil)) (by rfl)) (pss_cons (ps_setLc (i := 4) (own := [("k", 5)]) (g := gName 5) (tt := tYes) (by rfl) sc_read_request.nd rfl rfl (sw_true rfl rfl rfl (by decide +kernel)) (pi_range1 (by rfl) T.f_range (pa_cons (pv 3) pa_nil)) (blkOk_by (own := [("k", 5)]) (N := ["octets", "reader", "door", "many", "arguments", "k"]) (sc := d_read_request.scope) (by decide +kernel)) (fun _ _ _ _ _ => pg_name (i := 5) sc_read_request.nd rfl (Or.inl rfl)) (fun _ _ _ _ _ => pts_nil) (fun _ _ _ _ _ => (pe_meth0 (pv 1) T.c_Reader T.m_Reader_take_value (ok_Reader_take_value T) (hr.mono (by decide)) T.B_Reader_take_value .nil pass0))) (pss_cons (ps_if (pt_cmpR op_lt (pe_fld (pv 1) rfl) (pe_callB call_len (by rfl) T.f_len (by decide +kernel) (pa_cons (pv 0) pa_nil)) (nomark _)) (pss_one ps_never) pss_nil) (pss_one (ps_ret (pe_tup (pa_cons (pv 2) (pa_cons (pv 4) pa_nil))))))))), ?_⟩)
  · (repeat (first | exact congrArg List.length h.1 | obtain ⟨_, h⟩ := h))
  · obtain ⟨b, l, d, args, rfl, hb, hl, hreq, hg, ha, q⟩ := h
    match l, hreq with
    | c1 :: c2 :: c3 :: rr, hreq =>
    have hr2 : (match RWire.readArgs c3.toNat rr with | none => none | some l => some (c1.toNat + 256 * c2.toNat, l)) = some (d, args) := hreq
    cases hra : RWire.readArgs c3.toNat rr with
    | none => rw [hra] at hr2; cases hr2
    | some l2 =>
    rw [hra] at hr2
    injection hr2 with hr2
    injection hr2 with hd1 hd2
    subst hd1; subst hd2
    have hm : RWire.readMany (RWire.readF 32) c3.toNat rr = some (l2, []) := by
      unfold RWire.readArgs at hra
      split at hra
      · rename_i l3 e; injection hra with hra; subst hra; exact e
      · cases hra
    have l3 := c3.toNat_lt
    refine ⟨_, rfl, fun r dx nr nd ne => ?_⟩
    refine ⟨r, dx, .ref b, rfl, upd_same, fun H1 h1 k1 => ⟨rfl, ?_⟩⟩
    have x1 : Ex H H1 := fun c o z => Same.made nr nd k1 c o z
    have br : b ≠ r := ne_of_none hb nr
    have rd1 : RdAt K H1 r b (c1 :: c2 :: c3 :: rr) := ⟨dx, c1 :: c2 :: c3 :: rr, 0, h1, x1 _ _ hb, br, Nat.zero_le _, hl, rfl⟩
    obtain ⟨dx1, fs1, g1, no1⟩ := rd_meth rd1
    refine ⟨_, rfl, r, dx1, fs1, rfl, g1, no1 "take_number" rfl, r, b, 2, RWire.numOf [c1, c2], _, c3 :: rr, rfl, rd1, by decide, rfl, fun H2 bt2 rd2 => ?_⟩
    obtain ⟨dx2, fs2, g2, no2⟩ := rd_meth rd2
    refine ⟨_, rfl, r, dx2, fs2, rfl, g2, no2 "take_number" rfl, r, b, 1, RWire.numOf [c3], _, rr, rfl, rd2, by decide, rfl, fun H3 bt3 rd3 => ⟨_, _, rfl, ?_⟩⟩
    refine ⟨_, rfl, ((RWire.numOf [c3] : Nat) : Int), rfl, by omega, by show ((c3.toNat + 256 * 0 : Nat) : Int) < 2 ^ 62; omega, fun Dl hD => ?_⟩
    refine lc_args (K := K) (n := c3.toNat) (args := l2) (b := b) (rest := rr) rfl rfl hD rd3 (by omega) hm hg fun us H4 bt4 rd4 hus hvs => ?_
    have btA : Bt r H1 H4 := bt2.trans (bt3.trans bt4)
    have e4 : Ex H H4 := btA.ex x1 nr
    obtain ⟨dx4, l4, n4, g4, g5, g6, g7, g8, g9⟩ := id rd4
    have e0 : bytesV l4 = bytesV (c1 :: c2 :: c3 :: rr) := by
      have z := (e4 _ _ hb).symm.trans g5
      injection z with z; injection z with z
      exact z.symm
    have n0 : n4 = l4.length := by
      have := congrArg List.length g9
      rw [List.length_drop] at this
      simp at this
      omega
    have rf : ∀ σ : L2.St, σ[1]? = some (some (.ref r)) → Ev (tFld K (tVar 1) "at") σ H4 (.int n4) := fun σ e => ev_fld (ev_var e) g4 T.c_Reader T.n_Reader_at rfl
    refine s_when (D := _) (b := false) (et_is (et_B (ev_int (g := fun i j => .bl (decide (i < j))) (rf _ rfl) (ev_len2 (ev_var rfl) (sq_of (e4 _ _ hb))))) ?_) (fun h => Bool.noConfusion h) (fun _ H5 x5 => ?_)
    · rw [← e0, bytesV_len, n0]
      exact decide_eq_false (by omega)
    · refine ⟨_, rfl, _, rfl, by show 2 ≤ sizeLine; decide, fun p hp => ?_⟩
      have hus5 := x5 _ _ hus
      have np : p ≠ Dl := fun z => by rw [z, hus5] at hp; cases hp
      have hd0 : (RWire.numOf [c1, c2] : Nat) = c1.toNat + 256 * c2.toNat := by show c1.toNat + 256 * (c2.toNat + 256 * 0) = _; omega
      have e5 := e4.trans x5
      have hDr : Dl ≠ r := fun z => by rw [z] at hD; exact rd3.some hD
      have D0 : H Dl = none := by
        have z1 := bt3.fresh hD rd3.some
        have z2 := bt2.fresh z1 rd2.some
        exact fresh_back x1 z2
      refine q p Dl us _ (e5.trans (Ex.new hp)) ?_ (by rw [upd_ne np.symm]; exact hus5) D0 (fresh_back e5 hp) np ?_
      · show L2.upd H5 p (.tup [.int ((RWire.numOf [c1, c2] : Nat) : Int), .ref Dl]) p = _
        rw [upd_same, hd0]
      · refine hvs.mono fun l o z => ?_
        obtain ⟨z1, z2⟩ := nw_some z
        have z3 : l ≠ Dl := fun y => by rw [y, upd_same] at z1; cases z1
        rw [upd_ne z3] at z1
        have y2 := bt3.fresh z1 rd3.some
        have y1 := bt2.fresh y2 rd2.some
        rw [nw_at (fresh_back x1 y1), upd_ne (ne_of_none (x5 _ _ z2) hp)]
        exact x5 _ _ z2
end
end Sl
/-! ## SlOct -/
namespace Sl
open PySem PySem.Spec PyProof.Rows L2 Evl
/-! ### values told in octets -/
mutual
def plainV : Val → Bool
  | .text u => isPlain u
  | .list l => plainVs l
  | .record l => plainEs l
  | _ => true
def plainVs : List Val → Bool
  | [] => true
  | x :: r => plainV x && plainVs r
def plainEs : List (RWire.Text × Val) → Bool
  | [] => true
  | e :: r => isPlain e.1 && (plainV e.2 && plainEs r)
end
abbrev Itm := Option RWire.Text × Val
def nmO : Option RWire.Text → Oct
  | none => []
  | some u => RWire.writeText u
def nmV : Option RWire.Text → V
  | none => .non
  | some u => .str (enc u)
def nmP : Option RWire.Text → Bool
  | none => true
  | some u => isPlain u
def outS : List Itm → Oct
  | [] => []
  | e :: r => (nmO e.1 ++ RWire.write e.2) ++ outS r
def plainS (l : List Itm) : Prop := ∀ e ∈ l, nmP e.1 = true ∧ plainV e.2 = true
theorem write_pos (x : Val) : 1 ≤ (RWire.write x).length := by cases x <;> simp [RWire.write]
theorem outS_len : ∀ l : List Itm, l.length ≤ (outS l).length
  | [] => Nat.le_refl _
  | e :: r => by
    have h1 := outS_len r
    have h2 := write_pos e.2
    show r.length + 1 ≤ ((nmO e.1 ++ RWire.write e.2) ++ outS r).length
    rw [List.length_append, List.length_append]
    omega
theorem outS_app : ∀ l m : List Itm, outS (l ++ m) = outS l ++ outS m
  | [], m => rfl
  | e :: l, m => by
    show (nmO e.1 ++ RWire.write e.2) ++ outS (l ++ m) = ((nmO e.1 ++ RWire.write e.2) ++ outS l) ++ outS m
    rw [outS_app l m, List.append_assoc (nmO e.1 ++ RWire.write e.2)]
theorem outS_list : ∀ l : List Val, outS (l.map fun x => (none, x)) = RWire.writeMany l
  | [] => rfl
  | x :: l => by
    show (([] ++ RWire.write x) ++ outS (l.map fun x => (none, x))) = RWire.write x ++ RWire.writeMany l
    rw [outS_list l]; rfl
def recI (l : List (RWire.Text × Val)) : List Itm := l.map fun e => (some e.1, e.2)
theorem outS_rec : ∀ l : List (RWire.Text × Val), outS (recI l) = RWire.writeEntries l
  | [] => rfl
  | e :: l => by
    show ((RWire.writeText e.1 ++ RWire.write e.2) ++ outS (recI l)) = RWire.writeText e.1 ++ (RWire.write e.2 ++ RWire.writeEntries l)
    rw [outS_rec l, List.append_assoc]
theorem plainVs_at : ∀ {l : List Val}, plainVs l = true → ∀ x ∈ l, plainV x = true
  | [], _, x, m => by cases m
  | a :: l, h, x, m => by
    obtain ⟨h1, h2⟩ := Bool.and_eq_true_iff.mp (show (plainV a && plainVs l) = true from h)
    rcases List.mem_cons.mp m with rfl | m
    · exact h1
    · exact plainVs_at h2 x m
theorem plainEs_at : ∀ {l : List (RWire.Text × Val)}, plainEs l = true → ∀ e ∈ l, isPlain e.1 = true ∧ plainV e.2 = true
  | [], _, x, m => by cases m
  | a :: l, h, x, m => by
    obtain ⟨h1, h2⟩ := Bool.and_eq_true_iff.mp (show (isPlain a.1 && (plainV a.2 && plainEs l)) = true from h)
    obtain ⟨h2, h3⟩ := Bool.and_eq_true_iff.mp h2
    rcases List.mem_cons.mp m with rfl | m
    · exact ⟨h1, h2⟩
    · exact plainEs_at h3 x m
/-- the stack's items in the list, the top last -/
def StkAt (K : PySem.W.Frag) (G : Hp) : List V → List Itm → Prop
  | vs, [] => vs = []
  | vs, e :: r => ∃ us t v, vs = us ++ [.ref t] ∧ G t = some (.tup [nmV e.1, v]) ∧ ValAt K G v e.2 ∧ StkAt K G us r
theorem StkAt.mono {K : PySem.W.Frag} {G G' : Hp} (e : Ex G G') : ∀ {vs : List V} {st : List Itm}, StkAt K G vs st → StkAt K G' vs st
  | vs, [], h => h
  | vs, i :: r, h => by
    obtain ⟨us, t, v, h1, h2, h3, h4⟩ := h
    exact ⟨us, t, v, h1, e _ _ h2, h3.mono e, h4.mono e⟩
theorem StkAt.len {K : PySem.W.Frag} {G : Hp} : ∀ {vs : List V} {st : List Itm}, StkAt K G vs st → vs.length = st.length
  | vs, [], h => by rw [show vs = [] from h]; rfl
  | vs, i :: r, h => by
    obtain ⟨us, t, v, rfl, h2, h3, h4⟩ := h
    rw [List.length_append, h4.len]; rfl
theorem StkAt.app {K : PySem.W.Frag} {G : Hp} {vs : List V} {st : List Itm} (h : StkAt K G vs st) : ∀ {us : List V} {l : List Itm}, StkAt K G us l → StkAt K G (vs ++ us) (l ++ st)
  | us, [], h2 => by rw [show us = [] from h2, List.append_nil]; exact h
  | us, i :: r, h2 => by
    obtain ⟨ws, t, v, rfl, k1, k2, k3⟩ := h2
    exact ⟨vs ++ ws, t, v, (List.append_assoc ..).symm, k1, k2, h.app k3⟩
structure OC (K : PySem.W.Frag) (H0 : Hp) (p q : Addr) (done : Oct) (st : List Itm) (vs : List V) (H : Hp) : Prop where
  ex : Ex H0 (rg [p, q] H)
  ne : p ≠ q
  hp : H p = some (.lst (bytesV done))
  hq : H q = some (.lst vs)
  stk : StkAt K (rg [p, q] H) vs st
section
variable {K : PySem.W.Frag} {H0 H H1 : Hp} {p q : Addr} {done d : Oct} {st : List Itm} {vs : List V}
theorem OC.ext (h : OC K H0 p q done st vs H) (e : Ex H H1) : OC K H0 p q done st vs H1 := ⟨h.ex.trans (rg_mono e), h.ne, e _ _ h.hp, e _ _ h.hq, h.stk.mono (rg_mono e)⟩
theorem OC.more (h : OC K H0 p q done st vs H) : OC K H0 p q (done ++ d) st vs (upd H p (.lst (bytesV done ++ bytesV d))) := by
  have e : rg [p, q] (upd H p (.lst (bytesV done ++ bytesV d))) = rg [p, q] H := rg_upd (by simp)
  exact ⟨by rw [e]; exact h.ex, h.ne, by rw [upd_same, bytesV_app], by rw [upd_ne h.ne.symm]; exact h.hq, by rw [e]; exact h.stk⟩
theorem OC.stack {st' : List Itm} {vs' : List V} (h : OC K H0 p q done st vs H) (hs : StkAt K (rg [p, q] H) vs' st') : OC K H0 p q done st' vs' (upd H q (.lst vs')) := by
  have e : rg [p, q] (upd H q (.lst vs')) = rg [p, q] H := rg_upd (by simp)
  exact ⟨by rw [e]; exact h.ex, h.ne, by rw [upd_ne h.ne]; exact h.hp, upd_same, by rw [e]; exact hs⟩
end
def spOct (K : PySem.W.Frag) : Sp := fun vs H Q _ => ∃ (v : V) (x : Val), vs = [v] ∧ ValAt K H v x ∧ plainV x = true ∧ (RWire.write x).length ≤ 5000000 ∧ ∀ p H', H p = none → Ex H H' → H' p = some (.lst (bytesV (RWire.write x))) → Q (.ref p) H'
abbrev ocS (v : V) (p q : Addr) (a3 a4 a5 : Option V) : L2.St := [some v, some (.ref p), some (.ref q), a3, a4, a5]
def OcW (K : PySem.W.Frag) (H0 : Hp) (p q : Addr) (v : V) (x : Val) (m : Nat) (σ : L2.St) (H : Hp) : Prop := ∃ done st vs a3 a4 a5, (outS st).length = m ∧ RWire.write x = done ++ outS st ∧ plainS st ∧ σ = ocS v p q a3 a4 a5 ∧ OC K H0 p q done st vs H
section
variable {K : PySem.W.Frag} {H0 H F : Hp} {p q : Addr} {done d : Oct} {st : List Itm} {vs : List V} {σ : L2.St} {D : Ends} {te : TE} {n : Nat}
/-- found.extend(..) -/
theorem oc_ext (h : OC K H0 p q done st vs H) (hs : σ[1]? = some (some (.ref p))) (he : EvL te σ H (bytesV d)) (hz : done.length + d.length ≤ 10000000) (k : ∀ H1, OC K H0 p q (done ++ d) st vs H1 → Ex (rg [p, q] H) (rg [p, q] H1) → D.nx σ H1) : tDrop (tBM K "list" rExtend (tVar 1) (tCons te tNil)) D σ H :=
  ⟨_, hs, Or.inl ⟨rfl, _, sq_of h.hp⟩, he H (Ex.refl H) _ fun b H1 nb e1 hb => ⟨p, b, bytesV done, bytesV d, rfl, rfl, e1 _ _ h.hp, hb, sz10 (by rw [bytesV_len, bytesV_len]; exact hz), k _ (h.ext e1).more (by rw [rg_upd (by simp)]; exact rg_mono e1)⟩⟩
/-- found.append(..) -/
theorem oc_app {c : UInt8} (h : OC K H0 p q done st vs H) (hs : σ[1]? = some (some (.ref p))) (he : Ev te σ H (.int c.toNat)) (hz : done.length < 10000000) (k : ∀ H1, OC K H0 p q (done ++ [c]) st vs H1 → Ex (rg [p, q] H) (rg [p, q] H1) → D.nx σ H1) : tDrop (tBM K "list" rAppend (tVar 1) (tCons te tNil)) D σ H :=
  ⟨_, hs, Or.inl ⟨rfl, _, sq_of h.hp⟩, he H (Ex.refl H) _ fun H1 e1 => ⟨p, bytesV done, .int c.toNat, rfl, rfl, e1 _ _ h.hp, Nat.lt_of_lt_of_le (by rw [bytesV_len]; exact hz) (by decide : 10000000 ≤ sizeLine), k _ ((h.ext e1).more (d := [c])) (by rw [rg_upd (by simp)]; exact rg_mono e1)⟩⟩
theorem el_one {c : UInt8} (he : Ev te σ F (.int c.toNat)) : EvL (tLst (tCons te tNil)) σ F (bytesV [c]) := fun H1 e Q q => he H1 e _ fun H2 e2 => ⟨sz_of (by show 1 ≤ 100000; decide), fun a ha => q a _ (fresh_back e2 ha) (e2.trans (Ex.new ha)) upd_same⟩
theorem rev_items {G : Hp} : ∀ {ts : List V} {l : List (RWire.Text × Val)}, EntsAt K G ts l → StkAt K G ts.reverse (recI l)
  | ts, [], h => by rw [show ts = [] from h]; rfl
  | ts, e :: l, h => by
    obtain ⟨t, us, a, v, rfl, rfl, h1, h2, h3⟩ := h
    rw [List.reverse_cons]
    exact ⟨us.reverse, a, v, rfl, h1, h2, rev_items h3⟩
theorem rev_vals {G : Hp} : ∀ {vs us : List V} {l : List Val}, ValsAt K G vs l → All2 (fun x y => ∃ t, y = .ref t ∧ G t = some (.tup [.non, x])) vs us → StkAt K G us.reverse (l.map fun x => (none, x))
  | vs, us, [], h, a => by
    rw [show vs = [] from h] at a
    cases a
    rfl
  | vs, us, x :: l, h, a => by
    obtain ⟨v, ws, rfl, h1, h2⟩ := h
    cases a with
    | cons b r =>
      obtain ⟨t, rfl, ht⟩ := b
      rw [List.reverse_cons]
      exact ⟨_, t, v, rfl, ht, h1, rev_vals h2 r⟩
theorem All2.rev {P : V → V → Prop} : ∀ {xs ys : List V}, All2 P xs ys → All2 P xs.reverse ys.reverse
  | _, _, .nil => .nil
  | _, _, .cons a t => by
    rw [List.reverse_cons, List.reverse_cons]
    exact t.rev.snoc a
end
section
variable {K : PySem.W.Frag} {H0 H F : Hp} {p q : Addr} {done d : Oct} {st : List Itm} {us : List V} {σ : L2.St} {D : Ends} {tz : TS} {E : XK} {nm : Option RWire.Text}
theorem oc_name (h : OC K H0 p q done st us H) (h1 : σ[1]? = some (some (.ref p))) (h3 : σ[3]? = some (some (nmV nm))) (hp : nmP nm = true) (hz : done.length + (nmO nm).length ≤ 5000000) (k : ∀ H1, OC K H0 p q (done ++ nmO nm) st us H1 → Ex (rg [p, q] H) (rg [p, q] H1) → tz D σ H1) :
    tSeq (tIfS (tB (tOp (fun x y H Q => y = .non ∧ Q (.bl (!decide (x = .non))) H) (tVar 3) (tC .non))) (tDrop (tBM K "list" rExtend (tVar 1) (tCons (tCall spTO [] E (tCons (tVar 3) tNil)) tNil))) tNext) tz D σ H := by
  cases nm with
  | none =>
    refine q_when (b := false) (et_is (et_B (ev_notN (ev_var h3))) rfl) (fun h => Bool.noConfusion h) fun _ H1 x1 => k H1 ?_ (rg_mono x1)
    show OC K H0 p q (done ++ []) st us H1
    rw [List.append_nil]
    exact h.ext x1
  | some u =>
    refine q_when (b := true) (et_is (et_B (ev_notN (ev_var h3))) rfl) (fun _ H1 x1 => ?_) fun h => Bool.noConfusion h
    have lu : u.length ≤ (nmO (some u)).length := by
      show u.length ≤ (RWire.low 4 u.length ++ u).length
      rw [List.length_append]; omega
    exact oc_ext (h.ext x1) h1 (el_to (ev_var h3) hp (by omega)) (by show _ + (nmO (some u)).length ≤ _; omega) fun H2 h2 x2 => k H2 h2 ((rg_mono x1).trans x2)
/-- a comprehension over a new list -/
theorem egn_lcN {xs : List V} {te tl : TE} {vs : List Nat} {j : Nat} {P : V → V → Hp → Prop} (mo : ∀ x, Mo (P x)) (h : EvL tl σ F xs) (hz : xs.length ≤ 10000000) (hw : ∀ x, wipe ((wipe σ vs).set j (some x)) vs = wipe σ vs)
    (he : ∀ x H, x ∈ xs → Ex F H → EgN te ((wipe σ vs).set j (some x)) H (P x)) : EgN (tLc (iList K tl) (gName j) tYes te vs) σ F (LstOf P xs) := fun H0 e0 Q q => h H0 e0 _ fun a H1 _ e1 ha => ⟨a, rfl, ⟨xs, sq_of ha⟩, fun Dl hD => by
  have lx : ∀ {H}, Ex H1 H → SqL K H a xs := fun e => sq_of (e _ _ ha)
  refine lc_items (F := H1) (items := xs) P mo (Ex.refl H1) hD (fun i H hi e => ⟨xs, _, lx e, List.getElem?_eq_getElem hi⟩) (fun H e => ⟨xs, lx e, Nat.le_refl _⟩) (fun i H x H' e hy => ⟨hy.1, fun _ => hy.2 _ (lx e)⟩) hz hw (fun x H m e => he x H m ((e0.trans e1).trans e)) fun ys H e hl al => q _ _ (e1.trans e) ?_
  exact lst_mono mo (nw_mono (Dom.of e1) (Ex.refl _)) (lst_of mo hD hl al)⟩
end
local macro_rules
  | `(tactic| walk_at "ev") => `(tactic| first
    | exact ev_c
    | exact ev_var rfl
    | (refine' ev_fld ?k1 ?k2 ?k3 ?k4 ?k5; (case k1 => walk_at "ev"); (case k2 => assumption); (case k3 => exact Tx.cl (by assumption) rfl); (case k4 => exact Tx.na (by assumption) rfl); (case k5 => rfl))
    | (refine' ev_meth ?k1 ?k2 ?k3 ?k4 ?k5; (case k1 => walk_at "ev"); (case k2 => assumption); (case k3 => rfl); (case k4 => walk_at "ev"); (case k5 => walk_at "sp"))
    | (refine' ev_callG ?k1 ?k2; (case k1 => walk_at "ev"); (case k2 => walk_at "sp"))
    | (refine' ev_isN ?k1; (case k1 => walk_at "ev"))
    | (refine' ev_notN ?k1; (case k1 => walk_at "ev"))
    | (refine' ev_int ?k1 ?k2; (case k1 => walk_at "ev"); (case k2 => walk_at "ev"))
    | (refine' ev_sc ?k1 ?k2 ?k3; (case k1 => walk_at "ev"); (case k2 => walk_at "ev"); (case k3 => rfl))
    | (refine' ev_scn ?k1 ?k2 ?k3; (case k1 => walk_at "ev"); (case k2 => walk_at "ev"); (case k3 => rfl))
    | (refine' ev_notV ?k1; (case k1 => walk_at "ev"))
    | (refine' ev_andV ?k1 ?k2; (case k1 => walk_at "ev"); (case k2 => intro _; walk_at "ev"))
    | (refine' ev_orV ?k1 ?k2; (case k1 => walk_at "ev"); (case k2 => intro _; walk_at "ev"))
    | (refine' et_test ?k1; (case k1 => walk_at "ev"))
    | (refine' et_B ?k1; (case k1 => walk_at "ev"))
    | (refine' et_and ?k1 ?k2; (case k1 => walk_at "ev"); (case k2 => intro _; walk_at "ev"))
    | (refine' et_or ?k1 ?k2; (case k1 => walk_at "ev"); (case k2 => intro _; walk_at "ev"))
    | (refine' et_not ?k1; (case k1 => walk_at "ev"))
    | exact ea_nil
    | (refine' ea_cons ?k1 ?k2; (case k1 => walk_at "ev"); (case k2 => walk_at "ev")))
local macro_rules
  | `(tactic| walk_at "sp") => `(tactic| first | exact spR_go (by assumption) | exact spExc_go (by assumption))
section
variable {P : Program} {w : World} {K : PySem.W.Frag} {mg : Str → Option Value} {base : Heap}
theorem sc_octets_of : FnScope ["value", "found", "waiting", "name", "here", "one"] ["value"] d_octets_of.scope := ⟨rfl, rfl, rfl, by decide +kernel, rfl, by decide +kernel, by decide +kernel⟩
theorem ok_octets_of (T : Tx w K mg) : FnOk P w K mg base CX0 3 (He.ga K "octets_of") (fdOf K (He.ga K "octets_of")) ["value"] (spOct K) := by
  refine mkOk T.F_octets_of ⟨rfl, rfl⟩ sc_octets_of (fun vs H Q E h => ?_) (fun cdv A outer s H vs Q E hr h => ⟨_, (pss_cons (ps_par (i := 1) (j := 2) rfl sc_octets_of.nd rfl rfl (by decide) rfl rfl (pa_cons (pe_lst pa_nil) (pa_cons (pe_lst (pa_cons (pe_tup (pa_cons pe_non (pa_cons (pv 0) pa_nil))) pa_nil)) pa_nil)) (by rfl)) (pss_cons (ps_while PassesOwn.never (pt_cmpR op_gt (pe_callB call_len (by rfl) T.f_len (by decide +kernel) (pa_cons (pv 2) pa_nil)) pe_int (nomark _)) (pss_cons (ps_asg (pe_bm0 PySem.F.plainAttrs_list PySem.F.slot_list_pop PySem.F.type_list_pop mt_pop (pv 2)) (pg_tup rfl (pgs_cons (pg_name (i := 3) sc_octets_of.nd rfl (Or.inl rfl)) (pgs_cons (pg_name (i := 4) sc_octets_of.nd rfl (Or.inl rfl)) pgs_nil)))) (pss_cons (ps_if (pt_cmpR op_notN (pv 3) pe_non (nomark _)) (pss_one (ps_expr (pe_bm PySem.F.plainAttrs_list PySem.F.slot_list_extend PySem.F.type_list_extend mt_extend (pv 1) (pa_cons (pe_call (ok_text_octets T) (hr.mono (by decide)) rfl T.g_text_octets T.kp_text_octets T.B_text_octets .nil pass0 (pa_cons (pv 3) pa_nil)) pa_nil)))) pss_nil) (pss_one (ps_if (pt_cmpR op_isN (pv 4) pe_non (nomark _)) (pss_one (ps_expr (pe_bm PySem.F.plainAttrs_list PySem.F.slot_list_append PySem.F.type_list_append mt_append (pv 1) (pa_cons (pe_gc rfl T.i_NULL) pa_nil)))) (pss_one (ps_if (pt_val (pe_callB call_isi (by rfl) T.f_isinstance (by decide +kernel) (pa_cons (pv 4) (pa_cons (pe_bltn (v := .ty "bool") (u := .type "bool") (by rfl) T.f_bool (by decide +kernel) rfl) pa_nil)))) (pss_one (ps_expr (pe_bm PySem.F.plainAttrs_list PySem.F.slot_list_append PySem.F.type_list_append mt_append (pv 1) (pa_cons (pe_ifExp (pt_val (pv 4)) (pe_gc rfl T.i_TRUE) (pe_gc rfl T.i_FALSE)) pa_nil)))) (pss_one (ps_if (pt_val (pe_callB call_isi (by rfl) T.f_isinstance (by decide +kernel) (pa_cons (pv 4) (pa_cons (pe_bltn (v := .ty "int") (u := .type "int") (by rfl) T.f_int (by decide +kernel) rfl) pa_nil)))) (pss_one (ps_expr (pe_bm PySem.F.plainAttrs_list PySem.F.slot_list_extend PySem.F.type_list_extend mt_extend (pv 1) (pa_cons (pe_op op_cat (pe_lst (pa_cons (pe_gc rfl T.i_NUMBER) pa_nil)) (pe_call (ok_number_octets T) (hr.mono (by decide)) rfl T.g_number_octets T.kp_number_octets T.B_number_octets .nil pass0 (pa_cons (pv 4) (pa_cons pe_int pa_nil)))) pa_nil)))) (pss_one (ps_if (pt_val (pe_callB call_isi (by rfl) T.f_isinstance (by decide +kernel) (pa_cons (pv 4) (pa_cons (pe_bltn (v := .ty "str") (u := .type "str") (by rfl) T.f_str (by decide +kernel) rfl) pa_nil)))) (pss_one (ps_expr (pe_bm PySem.F.plainAttrs_list PySem.F.slot_list_extend PySem.F.type_list_extend mt_extend (pv 1) (pa_cons (pe_op op_cat (pe_lst (pa_cons (pe_gc rfl T.i_TEXT) pa_nil)) (pe_call (ok_text_octets T) (hr.mono (by decide)) rfl T.g_text_octets T.kp_text_octets T.B_text_octets .nil pass0 (pa_cons (pv 4) pa_nil))) pa_nil)))) (pss_one (ps_if (pt_val (pe_callB call_isi (by rfl) T.f_isinstance (by decide +kernel) (pa_cons (pv 4) (pa_cons (pe_bltn (v := .ty "list") (u := .type "list") (by rfl) T.f_list (by decide +kernel) rfl) pa_nil)))) (pss_cons (ps_expr (pe_bm PySem.F.plainAttrs_list PySem.F.slot_list_extend PySem.F.type_list_extend mt_extend (pv 1) (pa_cons (pe_op op_cat (pe_lst (pa_cons (pe_gc rfl T.i_LIST) pa_nil)) (pe_call (ok_number_octets T) (hr.mono (by decide)) rfl T.g_number_octets T.kp_number_octets T.B_number_octets .nil pass0 (pa_cons (pe_callB call_len (by rfl) T.f_len (by decide +kernel) (pa_cons (pv 4) pa_nil)) (pa_cons pe_int pa_nil)))) pa_nil))) (pss_one (ps_expr (pe_bm PySem.F.plainAttrs_list PySem.F.slot_list_extend PySem.F.type_list_extend mt_extend (pv 2) (pa_cons (pe_lc (own := [("one", 5)]) (g := gName 5) (tt := tYes) (by rfl) sc_octets_of.nd (pi_list (pe_revL (pv 4))) (blkOk_by (own := [("one", 5)]) (N := ["value", "found", "waiting", "name", "here", "one"]) (sc := d_octets_of.scope) (by decide +kernel)) (fun _ _ _ _ _ => pg_name (i := 5) sc_octets_of.nd rfl (Or.inl rfl)) (fun _ _ _ _ _ => pts_nil) (fun _ _ _ _ _ => (pe_tup (pa_cons pe_non (pa_cons (pv 5) pa_nil))))) pa_nil))))) (pss_one (ps_if (pt_val (pe_callB call_isi (by rfl) T.f_isinstance (by decide +kernel) (pa_cons (pv 4) (pa_cons (pe_glob (v := .ref (He.ga K "Record")) rfl T.g_Record rfl) pa_nil)))) (pss_cons (ps_expr (pe_bm PySem.F.plainAttrs_list PySem.F.slot_list_extend PySem.F.type_list_extend mt_extend (pv 1) (pa_cons (pe_op op_cat (pe_lst (pa_cons (pe_gc rfl T.i_RECORD) pa_nil)) (pe_call (ok_number_octets T) (hr.mono (by decide)) rfl T.g_number_octets T.kp_number_octets T.B_number_octets .nil pass0 (pa_cons (pe_callB call_len (by rfl) T.f_len (by decide +kernel) (pa_cons (pe_fld (pv 4) rfl) pa_nil)) (pa_cons pe_int pa_nil)))) pa_nil))) (pss_one (ps_expr (pe_bm PySem.F.plainAttrs_list PySem.F.slot_list_extend PySem.F.type_list_extend mt_extend (pv 2) (pa_cons (pe_revL (pe_fld (pv 4) rfl)) pa_nil))))) (pss_one (ps_expr (pe_bm PySem.F.plainAttrs_list PySem.F.slot_list_append PySem.F.type_list_append mt_append (pv 1) (pa_cons (pe_gc rfl T.i_NOTHING) pa_nil))))))))))))))))))) (pss_one (ps_ret (pv 1))))), ?_⟩)
  · (repeat (first | exact congrArg List.length h.1 | obtain ⟨_, h⟩ := h))
  · obtain ⟨v, x, rfl, hv, hpl, hlen, qq⟩ := h
    refine ⟨sz_of (by show 0 ≤ 100000; decide), fun p hp => ⟨_, rfl, by show 2 ≤ sizeLine; decide, fun t ht => ⟨sz_of (by show 1 ≤ 100000; decide), fun q hq => ⟨.ref p, .ref q, rfl, ?_⟩⟩⟩⟩
    have tp : t ≠ p := fun z => by rw [z, upd_same] at ht; cases ht
    have ht0 : H t = none := by rw [upd_ne tp] at ht; exact ht
    have qt : q ≠ t := fun z => by rw [z, upd_same] at hq; cases hq
    have qp : q ≠ p := fun z => by rw [upd_ne qt, z, upd_same] at hq; cases hq
    have hq0 : H q = none := by rw [upd_ne qt, upd_ne qp] at hq; exact hq
    have O0 : OC K H p q [] [(none, x)] [.ref t] (upd (upd (upd H p (.lst [])) t (.tup [.non, v])) q (.lst [.ref t])) := by
      have e0 : Ex H (rg [p, q] (upd (upd (upd H p (.lst [])) t (.tup [.non, v])) q (.lst [.ref t]))) := fun l o z => by
        have n1 := ne_of_none z hp
        have n2 := ne_of_none z hq0
        rw [rg_at (by simp [n1, n2]), upd_ne n2, upd_ne (ne_of_none z ht0), upd_ne n1]
        exact z
      refine ⟨e0, qp.symm, by rw [upd_ne qp.symm, upd_ne tp.symm]; exact upd_same, upd_same, [], t, v, rfl, ?_, hv.mono e0, rfl⟩
      rw [rg_at (by simp [tp, qt.symm]), upd_ne qt.symm]
      exact upd_same
    have e0 := O0.ex.trans rg_ex
    refine q_while (σ := ocS v p q none none none) (OcW K H p q v x) (RWire.write x).length ⟨[], [(none, x)], [.ref t], none, none, none, by show (([] ++ RWire.write x) ++ []).length = _; rw [List.nil_append, List.append_nil], by show _ = [] ++ (([] ++ RWire.write x) ++ []); rw [List.nil_append, List.nil_append, List.append_nil], fun e m => by rw [List.mem_singleton.mp m]; exact ⟨rfl, hpl⟩, rfl, O0⟩ fun m σ' H' hW => ?_
    obtain ⟨done, st, vs, a3, a4, a5, rfl, hw, hps, rfl, hO⟩ := hW
    have lvs := hO.stk.len
    refine ⟨decide (0 < st.length), et_is (et_B (ev_int (g := fun i j => .bl (decide (j < i))) (i := (vs.length : Int)) (ev_len2 (ev_var rfl) (sq_of hO.hq)) ev_c)) ?_, fun hb H1 x1 => ⟨fun σ2 H2 => ∃ m', m' < (outS st).length ∧ OcW K H p q v x m' σ2 H2, fun _ _ h => h, ?_⟩, fun hb H1 x1 => ?_⟩
    · rw [lvs]
      exact decide_eq_decide.mpr (by omega)
    · match st, hw, hps, hO, lvs with
      | e :: r, hw, hps, hO, lvs =>
        have hO1 := hO.ext x1
        obtain ⟨us, t1, v1, rfl, g1, g2, g3⟩ := hO1.stk
        obtain ⟨pl1, pl2⟩ := hps e (List.mem_cons_self ..)
        have lw : done.length + ((nmO e.1).length + (RWire.write e.2).length + (outS r).length) ≤ 5000000 := by
          have := congrArg List.length hw
          rw [List.length_append] at this
          have h2 : (outS (e :: r)).length = (nmO e.1).length + (RWire.write e.2).length + (outS r).length := by
            show ((nmO e.1 ++ RWire.write e.2) ++ outS r).length = _
            rw [List.length_append, List.length_append]
          omega
        refine ⟨_, rfl, Or.inl ⟨rfl, us ++ [.ref t1], sq_of hO1.hq⟩, q, us ++ [.ref t1], .ref t1, rfl, rfl, hO1.hq, by simp, ?_⟩
        rw [List.dropLast_concat]
        have hO2 := hO1.stack g3
        obtain ⟨m1, m2⟩ := rg_some g1
        have t1q : t1 ≠ q := fun z => m1 (by simp [z])
        refine ⟨t1, [nmV e.1, v1], rfl, st_of (by rw [upd_ne t1q]; exact m2), rfl, _, _, rfl, _, _, rfl, rfl, ?_⟩
        have hg2 : ValAt K (rg [p, q] (upd H1 q (.lst us))) v1 e.2 := by rw [rg_upd (by simp)]; exact g2
        refine oc_name hO2 rfl rfl pl1 (by omega) fun H2 hO3 x3 => ?_
        have hx : ValAt K (rg [p, q] H2) v1 e.2 := hg2.mono x3
        have hx2 : ValAt K H2 v1 e.2 := hx.mono rg_ex
        have hE : EgV K (tVar 4) (ocS v p q (some (nmV e.1)) (some v1) a5) H2 e.2 := gv_varE rfl hx2
        have hE2 : ∀ H3, Ex H2 H3 → EgV K (tVar 4) (ocS v p q (some (nmV e.1)) (some v1) a5) H3 e.2 := fun H3 y => gv_varE rfl (hx2.mono y)
        have fin : ∀ (d : Oct) (l' : List Itm) (vs' : List V) (H3 : Hp), OC K H p q ((done ++ nmO e.1) ++ d) (l' ++ r) vs' H3 → RWire.write e.2 = d ++ outS l' → 1 ≤ d.length → plainS l' → ∃ m', m' < (outS (e :: r)).length ∧ OcW K H p q v x m' (ocS v p q (some (nmV e.1)) (some v1) a5) H3 := fun d l' vs' H3 ho hd h1 hp' => by
          refine ⟨_, ?_, (done ++ nmO e.1) ++ d, l' ++ r, vs', _, _, _, rfl, ?_, fun i m => (List.mem_append.mp m).elim (hp' i) fun z => hps i (List.mem_cons_of_mem _ z), rfl, ho⟩
          · have h2 : (outS (e :: r)).length = (nmO e.1).length + (RWire.write e.2).length + (outS r).length := by
              show ((nmO e.1 ++ RWire.write e.2) ++ outS r).length = _
              rw [List.length_append, List.length_append]
            have h3 := congrArg List.length hd
            rw [List.length_append] at h3
            rw [outS_app, List.length_append]
            omega
          · rw [hw]
            show done ++ ((nmO e.1 ++ RWire.write e.2) ++ outS r) = _
            rw [hd, outS_app]
            simp only [List.append_assoc]
        have ld : (done ++ nmO e.1).length ≤ 5000000 := by rw [List.length_append]; omega
        have fin0 : ∀ (d : Oct) (H3 : Hp), OC K H p q ((done ++ nmO e.1) ++ d) r us H3 → RWire.write e.2 = d → 1 ≤ d.length → ∃ m', m' < (outS (e :: r)).length ∧ OcW K H p q v x m' (ocS v p q (some (nmV e.1)) (some v1) a5) H3 := fun d H3 ho hd h1 => fin d [] us H3 ho (by rw [hd]; exact (List.append_nil _).symm) h1 fun i m => by cases m
        have hN : ∀ b, decide (v1 = V.non) = b → EvT (tB (tOp (fun x y H Q => y = .non ∧ Q (.bl (decide (x = .non))) H) (tVar 4) (tC .non))) (ocS v p q (some (nmV e.1)) (some v1) a5) H2 b := fun b z => et_is (et_B (ev_isN (ev_var rfl))) z
        obtain ⟨nm, x1⟩ := e
        dsimp only at lw ld
        cases x1 with
        | null =>
          unfold ValAt at hx
          subst hx
          exact s_if (hN true rfl) (fun _ H3 y3 => oc_app (c := 1) (hO3.ext y3) rfl ev_c (by dsimp only; omega) fun H4 h4 _ => fin0 [1] H4 h4 rfl (by decide)) fun h => Bool.noConfusion h
        | bool bb =>
          unfold ValAt at hx
          subst hx
          refine s_if (hN false rfl) (fun h => Bool.noConfusion h) fun _ H3 y3 => s_if (b := true) (et_test (ev_isB (hE2 H3 y3) T)) (fun _ H4 y4 => ?_) fun h => Bool.noConfusion h
          refine oc_app (c := if bb then 3 else 2) (hO3.ext (y3.trans y4)) rfl (ev_if (b := bb) (et_test (ev_var rfl)) (fun z => ?_) fun z => ?_) (by dsimp only; omega) fun H5 h5 _ => fin0 _ H5 h5 rfl (by cases bb <;> decide)
          · subst z; exact ev_c
          · subst z; exact ev_c
        | int i =>
          unfold ValAt at hx
          subst hx
          refine s_if (hN false rfl) (fun h => Bool.noConfusion h) fun _ H3 y3 => s_if (b := false) (et_test (ev_isB (hE2 H3 y3) T)) (fun h => Bool.noConfusion h) fun _ H4 y4 => s_if (b := true) (et_test (ev_isI (hE2 H4 (y3.trans y4)) T)) (fun _ H5 y5 => ?_) fun h => Bool.noConfusion h
          have e8 : bytesV (4 :: RWire.writeInt i) = bytesV [4] ++ bytesV (RWire.low 8 (i % RWire.wordMost).toNat) := rfl
          have l8 : (RWire.writeInt i).length = 8 := by unfold RWire.writeInt; rw [low_map, List.length_map, List.length_range]
          refine oc_ext (d := 4 :: RWire.writeInt i) (hO3.ext (y3.trans (y4.trans y5))) rfl ?_ (by rw [List.length_cons, l8]; dsimp only; omega) fun H6 h6 _ => fin0 _ H6 h6 rfl (by simp)
          rw [e8]
          exact el_catV (el_one ev_c) (el_no (m := 8) (ev_var rfl) ev_c (by decide)) (by rw [bytesV_len, bytesV_len, low_map, List.length_map, List.length_range]; decide)
        | text u =>
          unfold ValAt at hx
          subst hx
          have lu : (RWire.write (.text u)).length = 1 + (4 + u.length) := by
            show (6 :: (RWire.low 4 u.length ++ u)).length = _
            rw [List.length_cons, List.length_append, low_map, List.length_map, List.length_range]
            omega
          refine s_if (hN false rfl) (fun h => Bool.noConfusion h) fun _ H3 y3 => s_if (b := false) (et_test (ev_isB (hE2 H3 y3) T)) (fun h => Bool.noConfusion h) fun _ H4 y4 => s_if (b := false) (et_test (ev_isI (hE2 H4 (y3.trans y4)) T)) (fun h => Bool.noConfusion h) fun _ H5 y5 => s_if (b := true) (et_test (ev_isS (hE2 H5 (y3.trans (y4.trans y5))) T)) (fun _ H6 y6 => ?_) fun h => Bool.noConfusion h
          have e8 : bytesV (RWire.write (.text u)) = bytesV [6] ++ bytesV (RWire.writeText u) := rfl
          refine oc_ext (d := RWire.write (.text u)) (hO3.ext (y3.trans (y4.trans (y5.trans y6)))) rfl ?_ (by dsimp only; omega) fun H7 h7 _ => fin0 _ H7 h7 rfl (by rw [lu]; omega)
          rw [e8]
          refine el_catV (el_one ev_c) (el_to (ev_var rfl) pl2 (by omega)) ?_
          rw [bytesV_len, bytesV_len]
          have : (RWire.writeText u).length + 1 = (RWire.write (.text u)).length := rfl
          show 1 + (RWire.writeText u).length ≤ _
          omega
        | nothing =>
          unfold ValAt at hx
          obtain ⟨a, dx, rfl, hx⟩ := hx
          refine s_if (hN false (decide_eq_false fun z => by cases z)) (fun h => Bool.noConfusion h) fun _ H3 y3 => s_if (b := false) (et_test (ev_isB (hE2 H3 y3) T)) (fun h => Bool.noConfusion h) fun _ H4 y4 => s_if (b := false) (et_test (ev_isI (hE2 H4 (y3.trans y4)) T)) (fun h => Bool.noConfusion h) fun _ H5 y5 => s_if (b := false) (et_test (ev_isS (hE2 H5 (y3.trans (y4.trans y5))) T)) (fun h => Bool.noConfusion h)
            fun _ H6 y6 => s_if (b := false) (et_test (ev_isL (hE2 H6 (y3.trans (y4.trans (y5.trans y6)))) T)) (fun h => Bool.noConfusion h) fun _ H7 y7 => s_if (b := false) (et_test (ev_isR (hE2 H7 (y3.trans (y4.trans (y5.trans (y6.trans y7))))) T)) (fun h => Bool.noConfusion h) fun _ H8 y8 => ?_
          exact oc_app (c := 0) (hO3.ext (y3.trans (y4.trans (y5.trans (y6.trans (y7.trans y8)))))) rfl ev_c (by dsimp only; omega) fun H9 h9 _ => fin0 [0] H9 h9 rfl (by decide)
        | list l =>
          have hx' := hx
          unfold ValAt at hx
          obtain ⟨a, ws, rfl, ha, hws⟩ := hx
          refine s_if (hN false (decide_eq_false fun z => by cases z)) (fun h => Bool.noConfusion h) fun _ H3 y3 => s_if (b := false) (et_test (ev_isB (hE2 H3 y3) T)) (fun h => Bool.noConfusion h) fun _ H4 y4 => s_if (b := false) (et_test (ev_isI (hE2 H4 (y3.trans y4)) T)) (fun h => Bool.noConfusion h) fun _ H5 y5 => s_if (b := false) (et_test (ev_isS (hE2 H5 (y3.trans (y4.trans y5))) T)) (fun h => Bool.noConfusion h)
            fun _ H6 y6 => s_if (b := true) (et_test (ev_isL (hE2 H6 (y3.trans (y4.trans (y5.trans y6)))) T)) (fun _ H7 y7 => ?_) fun h => Bool.noConfusion h
          have y := y3.trans (y4.trans (y5.trans (y6.trans y7)))
          have hO7 := hO3.ext y
          have ha7 : H7 a = some (.lst ws) := y _ _ (rg_ex _ _ ha)
          have lws := hws.len
          have lwr : (RWire.write (.list l)).length = 1 + (4 + (RWire.writeMany l).length) := by
            show (7 :: (RWire.low 4 l.length ++ RWire.writeMany l)).length = _
            rw [List.length_cons, List.length_append, low_map, List.length_map, List.length_range]
            omega
          have ll : l.length ≤ 5000000 := by
            have h1 := outS_len (l.map fun x => (none, x))
            rw [outS_list, List.length_map] at h1
            omega
          have hcnt : EvL (tOp rCat (tLst (tCons (tC (.int 7)) tNil)) (tCall spNO [] E (tCons (tCB (fun xs H Q => ∃ x n, xs = [x] ∧ LenV K x H n ∧ Q (.int n) H) (tCons (tVar 4) tNil)) (tCons (tC (.int 4)) tNil)))) (ocS v p q (some (nmV nm)) (some (.ref a)) a5) H7 (bytesV (7 :: RWire.writeCount l.length)) := by
            have e8 : bytesV (7 :: RWire.writeCount l.length) = bytesV [7] ++ bytesV (RWire.low 4 ((ws.length : Int) % RWire.wordMost).toNat) := by
              rw [lws, count_low (by omega)]; rfl
            rw [e8]
            exact el_catV (el_one ev_c) (el_no (m := 4) (ev_len2 (ev_var rfl) (sq_of ha7)) ev_c (by decide)) (by rw [bytesV_len, bytesV_len, low_map, List.length_map, List.length_range]; decide)
          refine oc_ext (d := 7 :: RWire.writeCount l.length) hO7 rfl hcnt (by
            have : (RWire.writeCount l.length).length = 4 := by unfold RWire.writeCount; rw [low_map, List.length_map, List.length_range]
            rw [List.length_cons, this]
            dsimp only
            omega) fun H8 h8 x8 => ?_
          have ha8 : H8 a = some (.lst ws) := rg_ex _ _ (x8 _ _ (rg_mono y _ _ ha))
          have hws8 : ValsAt K (rg [p, q] H8) ws l := hws.mono ((rg_mono y).trans x8)
          refine ⟨_, rfl, Or.inl ⟨rfl, us, sq_of h8.hq⟩, ?_⟩
          refine egn_lcN (P := fun x y H => ∃ t, y = .ref t ∧ H t = some (.tup [.non, x])) (fun x y H H' e z => by obtain ⟨t, z1, z2⟩ := z; exact ⟨t, z1, e _ _ z2⟩) (fun H9 y9 Q9 q9 => ⟨_, rfl, a, ws, rfl, sq_of (y9 _ _ ha8), fun r2 nr => q9 r2 _ nr (Ex.new nr) upd_same⟩) (by rw [List.length_reverse]; omega) (fun _ => rfl) (fun z H9 mz y9 => ?_) H8 (Ex.refl H8) _ fun zv H9 y9 hz => ?_
          · intro H10 y10 Q10 q10
            exact ⟨_, rfl, by show 2 ≤ sizeLine; decide, fun t nt => q10 (.ref t) _ (Ex.new nt) ⟨t, rfl, by rw [nw_at nt]; exact upd_same⟩⟩
          · obtain ⟨lp, ys, rfl, hlp, hal⟩ := hz
            obtain ⟨hlp1, hlp2⟩ := nw_some hlp
            have hO9 := h8.ext y9
            have lus := h8.stk.len
            have lys := hal.len
            rw [List.length_reverse] at lys
            refine ⟨q, lp, us, ys, rfl, rfl, hO9.hq, hlp2, ?_, ?_⟩
            · have := outS_len r
              exact sz10 (by omega)
            · have hal2 : All2 (fun x y => ∃ t, y = .ref t ∧ rg [p, q] H9 t = some (.tup [.non, x])) ws.reverse ys := hal.imp fun x y z => by
                obtain ⟨t, z1, z2⟩ := z
                obtain ⟨z3, z4⟩ := nw_some z2
                exact ⟨t, z1, by
                  rw [rg_at (by
                    intro m
                    simp only [List.mem_cons, List.not_mem_nil, or_false] at m
                    rcases m with m | m
                    · rw [m, h8.hp] at z3; cases z3
                    · rw [m, h8.hq] at z3; cases z3)]
                  exact z4⟩
              have hst := rev_vals (hws8.mono (rg_mono y9)) (by have := hal2.rev; rw [List.reverse_reverse] at this; exact this)
              rw [List.reverse_reverse] at hst
              refine fin (7 :: RWire.writeCount l.length) (l.map fun x => (none, x)) _ _ (hO9.stack (hO9.stk.app hst)) ?_ (by simp) fun i m => ?_
              · rw [outS_list]; rfl
              · obtain ⟨z, mz, rfl⟩ := List.mem_map.mp m
                exact ⟨rfl, plainVs_at pl2 z mz⟩
        | record l =>
          have hx' := hx
          unfold ValAt at hx
          obtain ⟨a, dx, mm, ts, rfl, ha, hm, hws⟩ := hx
          refine s_if (hN false (decide_eq_false fun z => by cases z)) (fun h => Bool.noConfusion h) fun _ H3 y3 => s_if (b := false) (et_test (ev_isB (hE2 H3 y3) T)) (fun h => Bool.noConfusion h) fun _ H4 y4 => s_if (b := false) (et_test (ev_isI (hE2 H4 (y3.trans y4)) T)) (fun h => Bool.noConfusion h) fun _ H5 y5 => s_if (b := false) (et_test (ev_isS (hE2 H5 (y3.trans (y4.trans y5))) T)) (fun h => Bool.noConfusion h)
            fun _ H6 y6 => s_if (b := false) (et_test (ev_isL (hE2 H6 (y3.trans (y4.trans (y5.trans y6)))) T)) (fun h => Bool.noConfusion h) fun _ H7 y7 => s_if (b := true) (et_test (ev_isR (hE2 H7 (y3.trans (y4.trans (y5.trans (y6.trans y7))))) T)) (fun _ H8 y8 => ?_) fun h => Bool.noConfusion h
          have y := y3.trans (y4.trans (y5.trans (y6.trans (y7.trans y8))))
          have hO7 := hO3.ext y
          have ha7 : H8 a = some (.ins (He.ga K "Record") dx [("members", .ref mm)]) := y _ _ (rg_ex _ _ ha)
          have hm7 : H8 mm = some (.lst ts) := y _ _ (rg_ex _ _ hm)
          have lws := hws.len
          have lwr : (RWire.write (.record l)).length = 1 + (4 + (RWire.writeEntries l).length) := by
            show (8 :: (RWire.low 4 l.length ++ RWire.writeEntries l)).length = _
            rw [List.length_cons, List.length_append, low_map, List.length_map, List.length_range]
            omega
          have ll : l.length ≤ 5000000 := by
            have h1 := outS_len (recI l)
            rw [outS_rec, show (recI l).length = l.length from List.length_map _] at h1
            omega
          have hcnt : EvL (tOp rCat (tLst (tCons (tC (.int 8)) tNil)) (tCall spNO [] E (tCons (tCB (fun xs H Q => ∃ x n, xs = [x] ∧ LenV K x H n ∧ Q (.int n) H) (tCons (tFld K (tVar 4) "members") tNil)) (tCons (tC (.int 4)) tNil)))) (ocS v p q (some (nmV nm)) (some (.ref a)) a5) H8 (bytesV (8 :: RWire.writeCount l.length)) := by
            have e8 : bytesV (8 :: RWire.writeCount l.length) = bytesV [8] ++ bytesV (RWire.low 4 ((ts.length : Int) % RWire.wordMost).toNat) := by
              rw [lws, count_low (by omega)]; rfl
            rw [e8]
            exact el_catV (el_one ev_c) (el_no (m := 4) (ev_len2 (ev_fld (ev_var rfl) ha7 T.c_Record T.n_Record_members rfl) (sq_of hm7)) ev_c (by decide)) (by rw [bytesV_len, bytesV_len, low_map, List.length_map, List.length_range]; decide)
          refine oc_ext (d := 8 :: RWire.writeCount l.length) hO7 rfl hcnt (by
            have : (RWire.writeCount l.length).length = 4 := by unfold RWire.writeCount; rw [low_map, List.length_map, List.length_range]
            rw [List.length_cons, this]
            dsimp only
            omega) fun H9 h9 x9 => ?_
          have ha9 : H9 a = some (.ins (He.ga K "Record") dx [("members", .ref mm)]) := rg_ex _ _ (x9 _ _ (rg_mono y _ _ ha))
          have hm9 : H9 mm = some (.lst ts) := rg_ex _ _ (x9 _ _ (rg_mono y _ _ hm))
          have hws9 : EntsAt K (rg [p, q] H9) ts l := hws.mono ((rg_mono y).trans x9)
          refine ⟨_, rfl, Or.inl ⟨rfl, us, sq_of h9.hq⟩, ?_⟩
          refine ⟨_, rfl, a, _, dx, _, .ref mm, rfl, ha9, T.c_Record, T.n_Record_members, rfl, mm, ts, rfl, sq_of hm9, fun lp nlp => ?_⟩
          have y10 : Ex H9 (upd H9 lp (.lst ts.reverse)) := Ex.new nlp
          have hO10 := h9.ext y10
          have lus := h9.stk.len
          refine ⟨q, lp, us, ts.reverse, rfl, rfl, hO10.hq, upd_same, ?_, ?_⟩
          · have := outS_len r
            rw [List.length_reverse]
            exact sz10 (by omega)
          · have hrev : StkAt K (rg [p, q] (upd H9 lp (.lst ts.reverse))) ts.reverse (recI l) := rev_items (hws9.mono (rg_mono y10))
            refine fin (8 :: RWire.writeCount l.length) (recI l) _ _ (hO10.stack (hO10.stk.app hrev)) ?_ (by simp) fun i m => ?_
            · rw [outS_rec]; rfl
            · obtain ⟨z, mz, rfl⟩ := List.mem_map.mp m
              exact plainEs_at pl2 z mz
        | big i => unfold ValAt at hx; exact hx.elim
        | octets u => unfold ValAt at hx; exact hx.elim
        | wide u => unfold ValAt at hx; exact hx.elim
    · have hO1 := hO.ext x1
      have e1 : st = [] := by
        have := of_decide_eq_false hb
        cases st with
        | nil => rfl
        | cons a r => simp at this
      subst e1
      have hdone : RWire.write x = done := by rw [hw]; exact List.append_nil _
      refine s_ret (ev_var rfl) fun H2 x2 => qq p H2 hp ((hO1.ext x2).ex.trans rg_ex) ?_
      rw [hdone]
      exact (hO1.ext x2).hp
end
end Sl
/-! ## SlHot4 -/
namespace Sl
open PySem PySem.Spec PyProof.Rows L2 Evl
theorem Tx.xfc {w : World} {K : PySem.W.Frag} {mg : Str → Option Value} (T : Tx w K mg) : XfC K (He.ga K "Refused") := ⟨T.refm.ga, T.refm.gt, T.refc.exC, T.refm.dct⟩
local macro_rules
  | `(tactic| walk_at "ev") => `(tactic| first
    | exact ev_c
    | exact ev_var rfl
    | (refine' ev_fld ?k1 ?k2 ?k3 ?k4 ?k5; (case k1 => walk_at "ev"); (case k2 => assumption); (case k3 => exact Tx.cl (by assumption) rfl); (case k4 => exact Tx.na (by assumption) rfl); (case k5 => rfl))
    | (refine' ev_meth ?k1 ?k2 ?k3 ?k4 ?k5; (case k1 => walk_at "ev"); (case k2 => assumption); (case k3 => rfl); (case k4 => walk_at "ev"); (case k5 => walk_at "sp"))
    | (refine' ev_callG ?k1 ?k2; (case k1 => walk_at "ev"); (case k2 => walk_at "sp"))
    | (refine' ev_isN ?k1; (case k1 => walk_at "ev"))
    | (refine' ev_notN ?k1; (case k1 => walk_at "ev"))
    | (refine' ev_int ?k1 ?k2; (case k1 => walk_at "ev"); (case k2 => walk_at "ev"))
    | (refine' ev_sc ?k1 ?k2 ?k3; (case k1 => walk_at "ev"); (case k2 => walk_at "ev"); (case k3 => rfl))
    | (refine' ev_scn ?k1 ?k2 ?k3; (case k1 => walk_at "ev"); (case k2 => walk_at "ev"); (case k3 => rfl))
    | (refine' ev_notV ?k1; (case k1 => walk_at "ev"))
    | (refine' ev_andV ?k1 ?k2; (case k1 => walk_at "ev"); (case k2 => intro _; walk_at "ev"))
    | (refine' ev_orV ?k1 ?k2; (case k1 => walk_at "ev"); (case k2 => intro _; walk_at "ev"))
    | (refine' et_test ?k1; (case k1 => walk_at "ev"))
    | (refine' et_B ?k1; (case k1 => walk_at "ev"))
    | (refine' et_and ?k1 ?k2; (case k1 => walk_at "ev"); (case k2 => intro _; walk_at "ev"))
    | (refine' et_or ?k1 ?k2; (case k1 => walk_at "ev"); (case k2 => intro _; walk_at "ev"))
    | (refine' et_not ?k1; (case k1 => walk_at "ev"))
    | exact ea_nil
    | (refine' ea_cons ?k1 ?k2; (case k1 => walk_at "ev"); (case k2 => walk_at "ev")))
local macro_rules
  | `(tactic| walk_at "sp") => `(tactic| first | exact spR_go (by assumption) | exact spExc_go (by assumption))
section
variable {P : Program} {w : World} {K : PySem.W.Frag} {mg : Str → Option Value} {base : Heap}
theorem hk_number_octets (T : Tx w K mg) : FnW P w K mg base CX0 1 (He.ga K "number_octets") (fdOf K (He.ga K "number_octets")) ["number", "many"] (fun _ => spNO) := by
  refine mkHk T.F_number_octets sc_number_octets (fun pn vs H Q E h => ?_) (fun cdv A outer s H vs Q E pn hot hr h => ⟨_, (pss_one (ps_ret (pe_lcW (own := [("k", 2)]) (g := gName 2) (tt := tYes) hot sc_number_octets.nd (piw_range1 (by rfl) T.f_range (pa_cons (pv 1) pa_nil)) (blkOk_by (own := [("k", 2)]) (N := ["number", "many", "k"]) (sc := d_number_octets.scope) (by decide +kernel)) (fun _ _ _ _ _ => pg_name (i := 2) sc_number_octets.nd rfl (Or.inl rfl)) (fun _ _ _ _ _ => pts_nil) (fun _ _ _ _ _ => (pe_op op_andM (pe_op op_shr (pv 0) (pe_op op_mul pe_int (pv 2))) pe_int))))), ?_⟩)
  · (repeat (first | exact congrArg List.length h.1 | obtain ⟨_, h⟩ := h))
  · obtain ⟨i, m, rfl, hm, q⟩ := h
    have key : EvL (tLc (iRng1 (tCons (tVar 1) tNil)) (gName 2) tYes (tOp (fun x y H Q => ∃ (i : Int) (k : Nat), x = .int i ∧ y = .int (2 ^ k - 1) ∧ Q (.int (i % 2 ^ k)) H) (tOp (rI (fun _ j => 0 ≤ j) fun i j => .int (i / 2 ^ j.toNat)) (tVar 0) (tOp (rI CMul fun i j => .int (i * j)) (tC (.int 8)) (tVar 2))) (tC (.int 255))) [2]) [some (.int i), some (.int m), none] H (bytesV (RWire.low m (i % RWire.wordMost).toNat)) := by
      refine el_egn (f := fun v => match v with
        | .int k => .int (i / 2 ^ (8 * k).toNat % 2 ^ 8)
        | _ => .non) (egn_lcR moEq (ea_cons (ev_var rfl) ea_nil) (by omega) (fun x => rfl) fun k H' hk x => egn_ev (v := .int (i / 2 ^ (8 * (k : Int)).toNat % 2 ^ 8)) (ev_op (ev_op (ev_var rfl) (ev_op ev_c (ev_var rfl) (rv_I (.inl ⟨by decide, by decide⟩))) (rv_I (by omega))) ev_c fun H1 _ _ q => ⟨_, 8, rfl, rfl, q H1 (Ex.refl H1)⟩) fun _ => rfl) ?_
      rw [low_map]
      unfold rngI bytesV
      rw [List.map_map, List.map_map]
      refine List.map_congr_left fun k hk => ?_
      have hk2 := List.mem_range.mp hk
      exact congrArg V.int (byteAt i k (by omega))
    exact s_retL key q
theorem hk_octets_in (T : Tx w K mg) : FnW P w K mg base CX0 1 (He.ga K "octets_in") (fdOf K (He.ga K "octets_in")) ["text"] (fun _ => spOI) := by
  refine mkHk T.F_octets_in sc_octets_in (fun pn vs H Q E h => ?_) (fun cdv A outer s H vs Q E pn hot hr h => ⟨_, (pss_cons (ps_if (pt_cmpR op_eq (pe_slice sl_str (pv 0) po_none (po_some pe_int)) (pe_gc rfl T.s_MARK) (nomark _)) pss_never pss_nil) (pss_one (ps_ret (pe_lcW (own := [("letter", 1)]) (g := gName 1) (tt := tYes) hot sc_octets_in.nd (piw_str (pv 0)) (blkOk_by (own := [("letter", 1)]) (N := ["text", "letter", "at"]) (sc := d_octets_in.scope) (by decide +kernel)) (fun _ _ _ _ _ => pg_name (i := 1) sc_octets_in.nd rfl (Or.inl rfl)) (fun _ _ _ _ _ => pts_nil) (fun _ _ _ _ _ => (pe_ifExp (pt_cmpR op_eq (pv 1) (pe_gc rfl T.s_PERCENT_LETTER) (nomark _)) (pe_gc rfl T.i_PERCENT) (pe_callB call_ord (by rfl) T.f_ord (by decide +kernel) (pa_cons (pv 1) pa_nil)))))))), ?_⟩)
  · (repeat (first | exact congrArg List.length h.1 | obtain ⟨_, h⟩ := h))
  · obtain ⟨u, rfl, hp, hz, q⟩ := h
    have he := enc_plain hp
    have hl : (enc u).length = u.length := by rw [he, SX.S_len, List.length_map]
    refine pr_when (F := H) (b := false) (et_is (ev_strs (i := cutS (enc u) none (some 1)) (j := "`") ?_ ev_c) ?_) (fun hb => Bool.noConfusion hb) (fun _ => ?_) H (Ex.refl H)
    · exact fun H1 x1 Q1 q1 => ⟨_, rfl, eo_none H1 (Ex.refl H1) _ fun H2 x2 => eo_some ev_c H2 (Ex.refl H2) _ fun H3 x3 => ⟨_, rfl, sz10 (by rw [hl]; omega), q1 H3 (x2.trans x3)⟩⟩
    · refine decide_eq_false fun z => ?_
      have z1 : (cutS (enc u) none (some 1)).cps.toList = [96] := by rw [z]; decide +kernel
      unfold cutS at z1
      rw [he] at z1
      cases u with
      | nil => simp at z1
      | cons o r =>
        have z3 : letr o.toNat = 96 := by
          have z2 : ((letr o.toNat :: r.map fun o => letr o.toNat).take 1) = [96] := by
            simpa [HT.sIx, SX.S_len] using z1
          simpa using z2
        exact plain_at hp (List.mem_cons_self ..) z3
    · intro H0 x0
      refine s_retL (xs := bytesV u) ?_ fun p H' n e h => q p H' (fresh_back x0 n) (x0.trans e) h
      refine el_egn (f := strF) (items := strI (enc u)) (egn_lcS moEq (ev_var rfl) (by rw [hl]; omega) (fun x => rfl) fun c H' hc x => ?_) ?_
      · refine egn_ev (v := .int (backC c : Nat)) ?_ fun _ => rfl
        refine ev_if (b := decide (c = 124)) (et_is (ev_strs (i := ⟨#[c]⟩) (j := "|") (ev_var rfl) ev_c) (decide_eq_decide.mpr ⟨fun z => ?_, fun z => by rw [z]; decide +kernel⟩)) (fun hb => ?_) fun hb => ?_
        · have z1 : (⟨#[c]⟩ : Str).cps.toList = [124] := by rw [z]; decide +kernel
          simpa using z1
        · have e1 : backC c = 37 := by unfold backC; rw [if_pos (of_decide_eq_true hb)]
          rw [e1]
          exact ev_c
        · have e1 : backC c = c := by unfold backC; rw [if_neg (of_decide_eq_false hb)]
          rw [e1]
          exact ev_cb (vs := [.str ⟨#[c]⟩]) (ea_cons (ev_var rfl) ea_nil) fun H1 _ Q1 q1 => ⟨_, rfl, rfl, q1 H1 (Ex.refl H1)⟩
      · unfold strI bytesV
        rw [he, List.map_map]
        show ((u.map fun o => letr o.toNat).toArray.toList).map _ = _
        rw [List.toList_toArray, List.map_map]
        refine List.map_congr_left fun o ho => ?_
        show V.int ((backC (letr o.toNat) : Nat) : Int) = _
        rw [back_letr (plain_at hp ho)]
theorem hk_text_octets (T : Tx w K mg) : FnW P w K mg base CX0 2 (He.ga K "text_octets") (fdOf K (He.ga K "text_octets")) ["text"] (fun _ => spTO) := by
  refine mkHk T.F_text_octets sc_text_octets (fun pn vs H Q E h => ?_) (fun cdv A outer s H vs Q E pn hot hr h => ⟨_, (pss_cons (ps_set (i := 1) sc_text_octets.nd rfl (Or.inl rfl) (pe_callW (hk_octets_in T) (hr.mono (by decide)) hot rfl T.g_octets_in T.kp_octets_in T.B_octets_in pass0 (pa_cons (pv 0) pa_nil))) (pss_one (ps_ret (pe_op op_cat (pe_callW (hk_number_octets T) (hr.mono (by decide)) hot rfl T.g_number_octets T.kp_number_octets T.B_number_octets pass0 (pa_cons (pe_callB call_len (by rfl) T.f_len (by decide +kernel) (pa_cons (pv 1) pa_nil)) (pa_cons pe_int pa_nil))) (pv 1))))), ?_⟩)
  · (repeat (first | exact congrArg List.length h.1 | obtain ⟨_, h⟩ := h))
  · obtain ⟨u, rfl, hp, hz, q⟩ := h
    refine q_asgL (H := H) (el_oi (ev_var rfl) hp hz) fun a H1 na x1 ha => ?_
    refine s_retL (xs := bytesV (RWire.writeText u)) ?_ fun p H' n e h => q p H' (fresh_back x1 n) (x1.trans e) h
    have e1 : bytesV (RWire.writeText u) = bytesV (RWire.low 4 (((bytesV u).length : Int) % RWire.wordMost).toNat) ++ bytesV u := by
      rw [bytesV_len, count_low (by omega), ← bytesV_app]; rfl
    rw [e1]
    refine el_catR (el_no (m := 4) (ev_len2 (ev_var rfl) (sq_of ha)) ev_c (by decide)) (ev_var rfl) ha ?_
    rw [bytesV_len, bytesV_len]
    show (RWire.low 4 _).length + u.length ≤ _
    rw [low_map, List.length_map, List.length_range]
    omega
theorem hx_Refused_init (T : Tx w K mg) : L2H.FnH P w K mg base CX0 1 (He.ma K (He.ga K "Refused") "__init__") (fdOf K (He.ma K (He.ga K "Refused") "__init__")) ["self", "manner", "message"] (spRefI K) := by
  refine mkHx T.F_Refused_init sc_Refused_init (fun vs H Q E h => ?_) (fun cdv A outer s H vs Q E p hot hr h => ⟨_, (pss_cons (ps_rst (pv 0) (pv 1) rfl) (pss_one (ps_rst (pv 0) (pv 2) rfl))), ?_⟩)
  · (repeat (first | exact congrArg List.length h.1 | obtain ⟨_, h⟩ := h))
  · obtain ⟨a, x, y, rfl, ha, q⟩ := h
    refine ⟨x, rfl, _, rfl, a, _, rfl, T.refc, T.refm.mn, .inl ⟨ha, fun d hd ne => ?_⟩⟩
    refine ⟨y, rfl, _, rfl, a, _, rfl, T.refc, T.refm.ms, .inr ⟨d, _, upd_same, by rw [upd_ne ne]; exact upd_same, by show 1 ≤ 900; decide, ?_⟩⟩
    refine q d _ hd ne ?_ upd_same fun b o hb hba => ?_
    · rw [upd_ne (Ne.symm ne)]; exact upd_same
    · rw [upd_ne (ne_of_none hb hd), upd_ne hba, upd_ne (ne_of_none hb hd)]; exact hb
theorem hx_need_range (T : Tx w K mg) : L2H.FnH P w K mg base (Xr.CX P w) 4 (He.ga K "need_range") (fdOf K (He.ga K "need_range")) ["is_so", "message"] (spNeed K 2) := by
  refine mkHx T.F_need_range sc_need_range (fun vs H Q E h => ?_) (fun cdv A outer s H vs Q E p hot hr h => ⟨_, (pss_one (ps_if (pt_not (pt_val (pv 0))) (pss_one (Xr.ps_raiseW ⟨p, hot, List.mem_cons_self⟩ (Xr.takes_of rfl rfl rfl rfl) (pmk_refH T.refc T.refm.ini T.refm.fn (hx_Refused_init T) (hr.mono (by decide)) ⟨p, hot, List.mem_cons_self⟩ T.B_Refused_init pass0 rfl T.g_Refused (pa_cons (pe_gc rfl T.i_OUT_OF_RANGE) (pa_cons (pv 1) pa_nil))))) pss_nil)), ?_⟩)
  · (repeat (first | exact congrArg List.length h.1 | obtain ⟨_, h⟩ := h))
  · obtain ⟨b, m, rfl, h1, h0⟩ := h
    cases b with
    | true => exact (et_not (et_test (ev_var (v := .bl true) rfl))) H (Ex.refl H) _ fun H1 x1 => iteF (h1 rfl H1 x1)
    | false =>
      refine (et_not (et_test (ev_var (v := .bl false) rfl))) H (Ex.refl H) _ fun H1 x1 => iteT ⟨_, rfl, by show 2 ≤ 1000; decide, fun a ha => ⟨a, _, _, rfl, upd_same, fun d H2 hd ne h2 h3 hk => ⟨rfl, d, _, h2, h3, ?_, h0 rfl d _ ?_ upd_same⟩⟩⟩
      · rw [upd_ne ne] at hd; exact hd
      · intro b o hb
        have h4 := x1 b o hb
        have h5 : b ≠ a := ne_of_none h4 ha
        have h6 : H1 d = none := by rw [upd_ne ne] at hd; exact hd
        rw [upd_ne (ne_of_none h4 h6), L2.del_ne h5]
        exact hk b o (by rw [upd_ne h5]; exact h4) h5
end
end Sl
/-! ## SlSrv -/
namespace Sl
open PySem PySem.Spec PyProof.Rows L2 Evl
open R7239g.Spec (natOrNull markPlain loginPlain sessionPlain deskPlain)
abbrev SD := R7239g.Spec.Desk
abbrev SLg := R7239g.Spec.Login
abbrev SMk := R7239g.Spec.Mark
abbrev SSs := R7239g.Spec.Session
/-! ### what is new since B -/
section
variable {K : PySem.W.Frag} {σ : L2.St} {B F : Hp} {te ta tb : TE} {tr : TA} {x : Val} {E : XK}
abbrev EgB (K : PySem.W.Frag) (B : Hp) (te : TE) (σ : L2.St) (F : Hp) (x : Val) : Prop := Eg te σ F fun v H => ValAt K (nw B H) v x
abbrev EgBs (K : PySem.W.Frag) (B : Hp) (t : TA) (σ : L2.St) (F : Hp) (l : List (RWire.Text × Val)) : Prop := EgA t σ F fun vs H => EntsAt K (nw B H) vs l
abbrev EgBE (K : PySem.W.Frag) (B : Hp) (te : TE) (σ : L2.St) (F : Hp) (l : List (RWire.Text × Val)) : Prop := Eg te σ F fun v H => ∃ m ts, v = .ref m ∧ nw B H m = some (.lst ts) ∧ EntsAt K (nw B H) ts l
theorem gb_int {i : Int} (h : Ev te σ F (.int i)) : EgB K B te σ F (.int i) := eg_ev h fun _ _ => by unfold ValAt; rfl
theorem gb_bl {b : Bool} (h : Ev te σ F (.bl b)) : EgB K B te σ F (.bool b) := eg_ev h fun _ _ => by unfold ValAt; rfl
theorem gb_non (h : Ev te σ F .non) : EgB K B te σ F .null := eg_ev h fun _ _ => by unfold ValAt; rfl
theorem gb_if {t : TT} {b : Bool} (ht : EvT t σ F b) (h1 : b = true → EgB K B ta σ F x) (h2 : b = false → EgB K B tb σ F x) : EgB K B (tIf t ta tb) σ F x := eg_if ht h1 h2
theorem gbs_nil : EgBs K B tNil σ F [] := fun H1 _ Q q => q [] H1 (Ex.refl H1) (by unfold EntsAt; rfl)
theorem gbs_cons {es : List (RWire.Text × Val)} {u : List UInt8} {s : Str} (d : Dom B F) (hs : s = enc u) (h : EgB K B te σ F x) (hr : EgBs K B tr σ F es) : EgBs K B (tCons (tTup (tCons (tC (.str s)) (tCons te tNil))) tr) σ F ((u, x) :: es) := fun H1 e Q q =>
  h H1 e _ fun v H2 e2 p => ⟨by show 2 ≤ sizeLine; decide, fun a ha => hr _ ((e.trans e2).trans (Ex.new ha)) _ fun us H3 e3 p3 => q (.ref a :: us) H3 ((e2.trans (Ex.new ha)).trans e3) (by
    have hB : B a = none := d a (fresh_back (e.trans e2) ha)
    unfold EntsAt
    exact ⟨.ref a, us, a, v, rfl, rfl, by rw [← hs, nw_at hB]; exact e3 _ _ upd_same, (p.mono (nw_mono (Dom.refl _) (Ex.new ha))).mono (nw_mono (Dom.refl _) e3), p3⟩)⟩
theorem gb_lst {es : List (RWire.Text × Val)} (d : Dom B F) (h : EgBs K B tr σ F es) (hl : Nat.ble es.length 100000 = true) : EgBE K B (tLst tr) σ F es := fun H1 e Q q =>
  h H1 e _ fun vs H2 e2 p => ⟨sz_of (by rw [p.len]; exact Nat.le_of_ble_eq_true hl), fun a ha => q (.ref a) _ (e2.trans (Ex.new ha)) ⟨a, vs, rfl, by rw [nw_at (d a (fresh_back (e.trans e2) ha))]; exact upd_same, p.mono (nw_mono (Dom.refl _) (Ex.new ha))⟩⟩
theorem gb_cat {l m : List (RWire.Text × Val)} (d : Dom B F) (h1 : EgBE K B ta σ F l) (h2 : EgBE K B tb σ F m) (hl : l.length + m.length ≤ 100000) : EgBE K B (tOp rCat ta tb) σ F (l ++ m) := fun H1 e Q q =>
  h1 H1 e _ fun v H2 e2 p2 => h2 H2 (e.trans e2) _ fun w H3 e3 p3 => by
    obtain ⟨a, vs, rfl, ha, pa⟩ := p2
    obtain ⟨b, us, rfl, hb, pb⟩ := p3
    refine ⟨a, b, vs, us, rfl, rfl, e3 _ _ (nw_ex _ _ ha), nw_ex _ _ hb, sz_of (by rw [pa.len, pb.len]; exact hl), fun p hp => q (.ref p) _ ((e2.trans e3).trans (Ex.new hp)) ?_⟩
    exact ⟨p, _, rfl, by rw [nw_at (d p (fresh_back ((e.trans e2).trans e3) hp))]; exact upd_same, (pa.mono (nw_mono (Dom.refl _) (e3.trans (Ex.new hp)))).append (pb.mono (nw_mono (Dom.refl _) (Ex.new hp)))⟩
theorem EgBE.of_var {i : Nat} {m : Addr} {ts : List V} {l : List (RWire.Text × Val)} (h : σ[i]? = some (some (.ref m))) (hm : nw B F m = some (.lst ts)) (he : EntsAt K (nw B F) ts l) : EgBE K B (tVar i) σ F l :=
  eg_ev (ev_var h) fun H1 e => ⟨m, ts, rfl, nw_mono (Dom.refl _) e _ _ hm, he.mono (nw_mono (Dom.refl _) e)⟩
theorem gb_record {es : List (RWire.Text × Val)} (d : Dom B F) (h : EgBE K B te σ F es) : EgB K B (tMake (He.ga K "Record") (spFields (He.ga K "Record") 1 recF) [] E (tCons te tNil)) σ F (.record es) := fun H1 e Q q =>
  h H1 e _ fun v H2 e2 p => by
    obtain ⟨m, ts, rfl, hm, he⟩ := p
    intro x dx nx nd ne
    refine ⟨x, dx, [.ref m], rfl, rfl, upd_same, fun H' h1 k => ⟨rfl, ?_⟩⟩
    have x3 : Ex H2 H' := fun b o hb => Same.made nx nd k b o hb
    refine q (.ref x) H' (e2.trans x3) ?_
    unfold ValAt
    exact ⟨x, dx, m, ts, rfl, by rw [nw_at (d x (fresh_back (e.trans e2) nx))]; exact h1, nw_mono (Dom.refl _) x3 _ _ hm, he.mono (nw_mono (Dom.refl _) x3)⟩
end
/-! ### tuples -/
abbrev EgT (te : TE) (σ : L2.St) (F : Hp) (xs : List V) : Prop := Eg te σ F fun v H => ∃ p, v = .ref p ∧ H p = some (.tup xs)
theorem cutV_all {xs : List V} {lo hi : Option Int} (h1 : HT.sIx xs.length 0 lo = 0) (h2 : HT.sIx xs.length xs.length hi = xs.length) : cutV xs lo hi = xs := by
  unfold cutV
  rw [h1, h2, Nat.sub_zero, List.drop_zero, List.take_length]
section
variable {K : PySem.W.Frag} {σ : L2.St} {F : Hp} {te ta tb : TE} {tr : TA} {xs ys : List V}
theorem et_tup (h : EvA tr σ F xs) (hl : xs.length ≤ 100000) : EgT (tTup tr) σ F xs := fun H1 e Q q => h H1 e _ fun H2 e2 => ⟨sz_of hl, fun a ha => q (.ref a) _ (e2.trans (Ex.new ha)) ⟨a, rfl, upd_same⟩⟩
theorem et_fld {v : V} {p : Addr} (h : Ev te σ F (.ref p)) (hp : F p = some (.tup xs)) : EgT te σ F xs := eg_ev h fun H1 e => ⟨p, rfl, e _ _ hp⟩
theorem et_cat (ha : EgT ta σ F xs) (hb : EgT tb σ F ys) (hz : xs.length + ys.length ≤ 100000) : EgT (tOp (rCatA K) ta tb) σ F (xs ++ ys) := fun H1 e Q q =>
  ha H1 e _ fun v H2 e2 p => hb H2 (e.trans e2) _ fun w H3 e3 p2 => by
    obtain ⟨a, rfl, ha⟩ := p
    obtain ⟨b, rfl, hb⟩ := p2
    refine ⟨a, b, xs, ys, rfl, rfl, st_of (e3 _ _ ha), st_of hb, sz_of hz, fun z => ?_, fun _ z => ?_, fun _ _ p hp => ?_⟩
    · subst z; exact q (.ref b) H3 (e2.trans e3) ⟨b, rfl, hb⟩
    · subst z; exact q (.ref a) H3 (e2.trans e3) ⟨a, rfl, by rw [List.append_nil]; exact e3 _ _ ha⟩
    · exact q (.ref p) _ ((e2.trans e3).trans (Ex.new hp)) ⟨p, rfl, upd_same⟩
theorem et_sl {tl th : TO} {lo hi : Option Int} (h : EgT te σ F xs) (h1 : EvO tl σ F lo) (h2 : EvO th σ F hi) : EgT (tSl (rSlA K) te tl th) σ F (cutV xs lo hi) := fun H1 e Q q =>
  h H1 e _ fun v H2 e2 p => h1 H2 (e.trans e2) _ fun H3 e3 => h2 H3 ((e.trans e2).trans e3) _ fun H4 e4 => by
    obtain ⟨a, rfl, ha⟩ := p
    have ha4 := e4 _ _ (e3 _ _ ha)
    refine ⟨a, xs, rfl, st_of ha4, fun z => ?_, fun _ p hp => ?_⟩
    · exact q (.ref a) H4 ((e2.trans e3).trans e4) ⟨a, rfl, by rw [cutV_all z.1 z.2]; exact ha4⟩
    · exact q (.ref p) _ (((e2.trans e3).trans e4).trans (Ex.new hp)) ⟨p, rfl, upd_same⟩
end
/-! ### logins, states, servers in the heap -/
def MarkAt (H : Hp) (v : V) : Option SMk → Prop
  | none => v = .non
  | some m => ∃ t, v = .ref t ∧ H t = some (.tup [.int m.phone, .int m.time])
def SessAt (H : Hp) (v : V) : Option SSs → Prop
  | none => v = .non
  | some m => ∃ t, v = .ref t ∧ H t = some (.tup [.int m.login, .int m.since])
abbrev lgF (b m : V) (s g t : V) : List (Str × V) := [("browser", b), ("made", m), ("scan", s), ("given", g), ("is_taken", t)]
def LoginAt (K : PySem.W.Frag) (H : Hp) (v : V) (x : SLg) : Prop := ∃ a dx s g, v = .ref a ∧ H a = some (.ins (He.ga K "Login") dx (lgF (.int x.browser) (.int x.made) s g (.bl x.taken))) ∧ MarkAt H s x.scan ∧ MarkAt H g x.given
def LoginsAt (K : PySem.W.Frag) (H : Hp) : List V → List SLg → Prop
  | vs, [] => vs = []
  | vs, x :: r => ∃ v us, vs = v :: us ∧ LoginAt K H v x ∧ LoginsAt K H us r
def SesssAt (H : Hp) : List V → List (Option SSs) → Prop
  | vs, [] => vs = []
  | vs, x :: r => ∃ v us, vs = v :: us ∧ SessAt H v x ∧ SesssAt H us r
abbrev stF (n l s : V) : List (Str × V) := [("now", n), ("logins", l), ("sessions", s)]
def StateAt (K : PySem.W.Frag) (H : Hp) (a : Addr) (w : SD) : Prop := ∃ dx lt st ls ss, H a = some (.ins (He.ga K "State") dx (stF (.int w.now) (.ref lt) (.ref st))) ∧ H lt = some (.tup ls) ∧ LoginsAt K H ls w.logins ∧ H st = some (.tup ss) ∧ SesssAt H ss w.sessions
/-- what states are made of -/
def sto : HO → Prop
  | .tup _ => True
  | .ins _ _ fs => fs.lookup ("rules" : Str) = none
  | _ => False
theorem sto_tup {xs : List V} : sto (.tup xs) := True.intro
theorem sto_ins {C d : Addr} {fs : List (Str × V)} (h : fs.lookup ("rules" : Str) = none) : sto (.ins C d fs) := h
def Im (H H' : Hp) : Prop := ∀ a o, H a = some o → sto o → H' a = some o
theorem Im.of {H H' : Hp} (e : Ex H H') : Im H H' := fun a o h _ => e a o h
theorem Im.trans {H H' H2 : Hp} (e : Im H H') (e2 : Im H' H2) : Im H H2 := fun a o h n => e2 a o (e a o h n) n
theorem Im.bt {l : Addr} {vs : List V} {H H' : Hp} (h : H l = some (.lst vs)) (e : Bt l H H') : Im H H' := fun a o ha n => e.at (fun z => by rw [z, h] at ha; injection ha with ha; subst ha; exact n) ha
theorem MarkAt.im {H H' : Hp} {v : V} (e : Im H H') : ∀ {o : Option SMk}, MarkAt H v o → MarkAt H' v o
  | none, h => h
  | some m, ⟨t, a, b⟩ => ⟨t, a, e _ _ b (by first | exact sto_tup | exact sto_ins rfl)⟩
theorem SessAt.im {H H' : Hp} {v : V} (e : Im H H') : ∀ {o : Option SSs}, SessAt H v o → SessAt H' v o
  | none, h => h
  | some m, ⟨t, a, b⟩ => ⟨t, a, e _ _ b (by first | exact sto_tup | exact sto_ins rfl)⟩
theorem LoginAt.im {K : PySem.W.Frag} {H H' : Hp} {v : V} {x : SLg} (e : Im H H') (h : LoginAt K H v x) : LoginAt K H' v x := by
  obtain ⟨a, dx, s, g, h1, h2, h3, h4⟩ := h
  exact ⟨a, dx, s, g, h1, e _ _ h2 (by first | exact sto_tup | exact sto_ins rfl), h3.im e, h4.im e⟩
theorem LoginsAt.im {K : PySem.W.Frag} {H H' : Hp} (e : Im H H') : ∀ {vs : List V} {l : List SLg}, LoginsAt K H vs l → LoginsAt K H' vs l
  | vs, [], h => h
  | vs, x :: r, ⟨v, us, a, b, c⟩ => ⟨v, us, a, b.im e, LoginsAt.im e c⟩
theorem SesssAt.im {H H' : Hp} (e : Im H H') : ∀ {vs : List V} {l : List (Option SSs)}, SesssAt H vs l → SesssAt H' vs l
  | vs, [], h => h
  | vs, x :: r, ⟨v, us, a, b, c⟩ => ⟨v, us, a, b.im e, SesssAt.im e c⟩
theorem StateAt.im {K : PySem.W.Frag} {H H' : Hp} {a : Addr} {w : SD} (e : Im H H') (h : StateAt K H a w) : StateAt K H' a w := by
  obtain ⟨dx, lt, st, ls, ss, h1, h2, h3, h4, h5⟩ := h
  exact ⟨dx, lt, st, ls, ss, e _ _ h1 (by first | exact sto_tup | exact sto_ins rfl), e _ _ h2 (by first | exact sto_tup | exact sto_ins rfl), h3.im e, e _ _ h4 (by first | exact sto_tup | exact sto_ins rfl), h5.im e⟩
theorem RulesAt.im {K : PySem.W.Frag} {H H' : Hp} {a : Addr} {r : SR} (e : Im H H') (h : RulesAt K H a r) : RulesAt K H' a r := by
  obtain ⟨o, dx, h⟩ := h
  exact ⟨o, dx, e _ _ h (by first | exact sto_tup | exact sto_ins rfl)⟩
theorem LoginsAt.len {K : PySem.W.Frag} {H : Hp} : ∀ {vs : List V} {l : List SLg}, LoginsAt K H vs l → vs.length = l.length
  | vs, [], h => by rw [show vs = [] from h]; rfl
  | vs, x :: r, ⟨v, us, a, b, c⟩ => by rw [a, List.length_cons, c.len]; rfl
theorem SesssAt.len {H : Hp} : ∀ {vs : List V} {l : List (Option SSs)}, SesssAt H vs l → vs.length = l.length
  | vs, [], h => by rw [show vs = [] from h]; rfl
  | vs, x :: r, ⟨v, us, a, b, c⟩ => by rw [a, List.length_cons, c.len]; rfl
theorem LoginsAt.get {K : PySem.W.Frag} {H : Hp} : ∀ {vs : List V} {l : List SLg} {i : Nat} {x : SLg}, LoginsAt K H vs l → l[i]? = some x → ∃ v, vs[i]? = some v ∧ LoginAt K H v x
  | vs, [], i, x, h, e => by cases e
  | vs, y :: r, i, x, ⟨v, us, a, b, c⟩, e => by
    subst a
    cases i with
    | zero => injection e with e; subst e; exact ⟨v, rfl, b⟩
    | succ i => exact LoginsAt.get (l := r) (i := i) c e
theorem SesssAt.get {H : Hp} : ∀ {vs : List V} {l : List (Option SSs)} {i : Nat} {x : Option SSs}, SesssAt H vs l → l[i]? = some x → ∃ v, vs[i]? = some v ∧ SessAt H v x
  | vs, [], i, x, h, e => by cases e
  | vs, y :: r, i, x, ⟨v, us, a, b, c⟩, e => by
    subst a
    cases i with
    | zero => injection e with e; subst e; exact ⟨v, rfl, b⟩
    | succ i => exact SesssAt.get (l := r) (i := i) c e
theorem LoginsAt.app {K : PySem.W.Frag} {H : Hp} : ∀ {vs us : List V} {l m : List SLg}, LoginsAt K H vs l → LoginsAt K H us m → LoginsAt K H (vs ++ us) (l ++ m)
  | vs, us, [], m, h, h2 => by rw [show vs = [] from h]; exact h2
  | vs, us, x :: r, m, ⟨v, ws, a, b, c⟩, h2 => by subst a; exact ⟨v, ws ++ us, rfl, b, c.app h2⟩
theorem LoginsAt.set {K : PySem.W.Frag} {H : Hp} : ∀ {vs : List V} {l : List SLg} {i : Nat} {v : V} {x : SLg}, LoginsAt K H vs l → LoginAt K H v x → LoginsAt K H (vs.set i v) (l.set i x)
  | vs, [], i, v, x, h, _ => by rw [show vs = [] from h]; rfl
  | vs, y :: r, i, v, x, ⟨u, us, a, b, c⟩, h2 => by
    subst a
    cases i with
    | zero => exact ⟨v, us, rfl, h2, c⟩
    | succ i => exact ⟨u, us.set i v, rfl, b, c.set h2⟩
theorem SesssAt.set {H : Hp} : ∀ {vs : List V} {l : List (Option SSs)} {i : Nat} {v : V} {x : Option SSs}, SesssAt H vs l → SessAt H v x → SesssAt H (vs.set i v) (l.set i x)
  | vs, [], i, v, x, h, _ => by rw [show vs = [] from h]; rfl
  | vs, y :: r, i, v, x, ⟨u, us, a, b, c⟩, h2 => by
    subst a
    cases i with
    | zero => exact ⟨v, us, rfl, h2, c⟩
    | succ i => exact ⟨u, us.set i v, rfl, b, c.set h2⟩
/-- xs[:i] + (y,) + xs[i + 1:] -/
theorem cut_set (xs : List V) (i : Nat) (y : V) (h : i < xs.length) : (cutV xs none (some (i : Int)) ++ [y]) ++ cutV xs (some ((i : Int) + 1)) none = xs.set i y := by
  have e1 : cutV xs none (some (i : Int)) = xs.take i := by
    unfold cutV
    rw [HT.sIx_none, HT.sIx_nat, Nat.min_eq_left (Nat.le_of_lt h), Nat.sub_zero, List.drop_zero]
  have e2 : cutV xs (some ((i : Int) + 1)) none = xs.drop (i + 1) := by
    unfold cutV
    rw [show (i : Int) + 1 = ((i + 1 : Nat) : Int) by omega, HT.sIx_nat, HT.sIx_none, Nat.min_eq_left h]
    exact List.take_of_length_le (by rw [List.length_drop]; exact Nat.le_refl _)
  rw [e1, e2, List.set_eq_take_append_cons_drop, if_pos h, List.append_assoc]
  rfl
def loF (vs : List V) : List (Str × V) := match vs with
  | [b, m, s, g, t] => lgF b m s g t
  | _ => []
def soF (vs : List V) : List (Str × V) := match vs with
  | [n, l, s] => stF n l s
  | _ => []
section
variable {P : Program} {w : World} {K : PySem.W.Frag} {mg : Str → Option Value} {base : Heap}
theorem sc_Login_init : FnScope ["self", "browser", "made", "scan", "given", "is_taken"] ["self", "browser", "made", "scan", "given", "is_taken"] d_Login_init.scope := ⟨rfl, rfl, rfl, by decide +kernel, rfl, by decide +kernel, by decide +kernel⟩
theorem ok_Login_init (T : Tx w K mg) : FnOk P w K mg base CX0 1 (He.ma K (He.ga K "Login") "__init__") (fdOf K (He.ma K (He.ga K "Login") "__init__")) ["self", "browser", "made", "scan", "given", "is_taken"] (spFields (He.ga K "Login") 5 loF) := by
  refine mkOk T.F_Login_init ⟨rfl, rfl⟩ sc_Login_init (fun vs H Q E h => ?_) (fun cdv A outer s H vs Q E hr h => ⟨_, (pss_cons (ps_fld (pv 0) (pv 1) rfl) (pss_cons (ps_fld (pv 0) (pv 2) rfl) (pss_cons (ps_fld (pv 0) (pv 3) rfl) (pss_cons (ps_fld (pv 0) (pv 4) rfl) (pss_one (ps_fld (pv 0) (pv 5) rfl)))))), ?_⟩)
  · exact spFields_len h
  · obtain ⟨p, dx, us, rfl, hl, hp, k⟩ := h
    match us, hl with
    | [b, m, s, g, t], _ =>
      refine ⟨_, rfl, _, rfl, p, _, dx, [], rfl, hp, T.c_Login, T.n_Login_browser, (by show 0 < 1000; decide), ?_⟩
      refine ⟨_, rfl, _, rfl, p, _, dx, _, rfl, upd_same, T.c_Login, T.n_Login_made, (by show 1 < 1000; decide), ?_⟩
      refine ⟨_, rfl, _, rfl, p, _, dx, _, rfl, upd_same, T.c_Login, T.n_Login_scan, (by show 2 < 1000; decide), ?_⟩
      refine ⟨_, rfl, _, rfl, p, _, dx, _, rfl, upd_same, T.c_Login, T.n_Login_given, (by show 3 < 1000; decide), ?_⟩
      refine ⟨_, rfl, _, rfl, p, _, dx, _, rfl, upd_same, T.c_Login, T.n_Login_is_taken, (by show 4 < 1000; decide), ?_⟩
      exact k _ upd_same fun c o e hc => by rw [upd_ne hc, upd_ne hc, upd_ne hc, upd_ne hc, upd_ne hc]; exact e
theorem sc_State_init : FnScope ["self", "now", "logins", "sessions"] ["self", "now", "logins", "sessions"] d_State_init.scope := ⟨rfl, rfl, rfl, by decide +kernel, rfl, by decide +kernel, by decide +kernel⟩
theorem ok_State_init (T : Tx w K mg) : FnOk P w K mg base CX0 1 (He.ma K (He.ga K "State") "__init__") (fdOf K (He.ma K (He.ga K "State") "__init__")) ["self", "now", "logins", "sessions"] (spFields (He.ga K "State") 3 soF) := by
  refine mkOk T.F_State_init ⟨rfl, rfl⟩ sc_State_init (fun vs H Q E h => ?_) (fun cdv A outer s H vs Q E hr h => ⟨_, (pss_cons (ps_fld (pv 0) (pv 1) rfl) (pss_cons (ps_fld (pv 0) (pv 2) rfl) (pss_one (ps_fld (pv 0) (pv 3) rfl)))), ?_⟩)
  · exact spFields_len h
  · obtain ⟨p, dx, us, rfl, hl, hp, k⟩ := h
    match us, hl with
    | [n, l, s], _ =>
      refine ⟨_, rfl, _, rfl, p, _, dx, [], rfl, hp, T.c_State, T.n_State_now, (by show 0 < 1000; decide), ?_⟩
      refine ⟨_, rfl, _, rfl, p, _, dx, _, rfl, upd_same, T.c_State, T.n_State_logins, (by show 1 < 1000; decide), ?_⟩
      refine ⟨_, rfl, _, rfl, p, _, dx, _, rfl, upd_same, T.c_State, T.n_State_sessions, (by show 2 < 1000; decide), ?_⟩
      exact k _ upd_same fun c o e hc => by rw [upd_ne hc, upd_ne hc, upd_ne hc]; exact e
end
end Sl
/-! ## SlEnum -/
namespace Sl
open PySem PySem.Spec PyProof.Rows
/-! ### enumerate over a tuple -/
abbrev enT1 (h : Heap) (l : Addr) : Heap := h.push { cls := .type "tuple_iterator", data := .fields #[.ref l, .int 0 0] }
abbrev enT2 (h : Heap) (l : Addr) : Heap := (enT1 h l).push { cls := .type "enumerate", data := .fields #[.none, .bool false, .ref h.objs.size, rawInt 0, .none, .none] }
section
theorem meets_enumT (l : Addr) (items : Array Value) :
    Meets (Builtin.«enumerate.__new__» ⟨[.type "enumerate", .ref l], []⟩) (fun _ R s => s.heap.IsTuple l items ∧ R (.ok (.ret (.ref (enT1 s.heap l).objs.size))) { s with heap := enT2 s.heap l }) :=
  .of_wp fun prog w A R s h => by
    obtain ⟨hp, g, d, tk, os⟩ := s
    obtain ⟨hl, h⟩ := h
    have hsub := sub_enumerate
    have hL : Heap.IsTuple (Shared.heap ⟨hp, g, d, tk, os⟩) l items := hl
    wp_walk
    refine wpAny_stack_any fun st => wpAny_pure ?_
    split
    · rename_i c _ _ _ _ _
      cases c == Value.type "enumerate" <;> (wp_walk using wpAny_pyIter_tuple hL; exact ⟨_, rfl, h⟩)
    · wp_walk using wpAny_pyIter_tuple hL
      exact ⟨_, rfl, h⟩
variable {prog : Program} {w : World} {A : Around} {E : Value → Shared → Prop} {s : Shared}
theorem call_enumT {l : Addr} {items : Array Value} {Q : Value → Shared → Prop} (hL : s.heap.IsTuple l items)
    (h : ∀ h', IsEnum h' (s.heap.objs.size + 1) s.heap.objs.size 0 .none → h'.IsTupleIter s.heap.objs.size l 0 → h'.objs.size = s.heap.objs.size + 2 → (∀ b o, s.heap.get? b = some o → h'.get? b = some o) → Q (.ref (s.heap.objs.size + 1)) { s with heap := h' }) :
    wpAny (model prog w) A (call (.type "enumerate") [.ref l]) Q E s := by
  refine callType_new F.called_enumerate (by decide) (F.typeCall_enumerate_1 _) (F.newCall_enumerate_1 _) (fun obj => F.args_object_init_2 obj _) F.entry_enumerate_new (meets_enumT l items) ⟨hL, ?_⟩
  have sz : (enT1 s.heap l).objs.size = s.heap.objs.size + 1 := Heap.size_push ..
  show _ ∧ _
  rw [sz]
  have he : IsEnum (enT2 s.heap l) (s.heap.objs.size + 1) s.heap.objs.size 0 .none := by
    have z := Heap.get?_push_size (enT1 s.heap l) (o := { cls := .type "enumerate", data := .fields #[.none, .bool false, .ref s.heap.objs.size, rawInt 0, .none, .none] }) rfl
    rwa [sz] at z
  have g0 : (enT1 s.heap l).get? s.heap.objs.size = some { cls := .type "tuple_iterator", data := .fields #[.ref l, .int 0 0] } := Heap.get?_push_size s.heap rfl
  have ht : (enT2 s.heap l).IsTupleIter s.heap.objs.size l 0 := ⟨_, Heap.get?_push_of_some _ g0, rfl, rfl⟩
  exact ⟨⟨_, he, rfl⟩, h _ he ht (by rw [Heap.size_push, sz]) fun b o x => Heap.get?_push_of_some _ (Heap.get?_push_of_some _ x)⟩
theorem enumT_item {e it l : Addr} {i : Nat} {items : Array Value} {x old : Value} {Q : Value → Shared → Prop} (he : IsEnum s.heap e it i old) (hit : s.heap.IsTupleIter it l i) (hl : s.heap.IsTuple l items) (hx : items[i]? = some x) (ne : e ≠ it)
    (hQ : ∀ h', IsEnumOut h' e it ((i : Int) + 1) x s.heap.objs.size → h'.IsTupleIter it l (i + 1) → h'.get? s.heap.objs.size = some { cls := .type "tuple", data := .seq #[.int i s.toks, x] } → h'.objs.size = s.heap.objs.size + 1 →
      (∀ b o, b ≠ e → b ≠ it → s.heap.get? b = some o → h'.get? b = some o) → Q (.ref s.heap.objs.size) { s with heap := h', toks := s.toks + 1 }) :
    wpAny (model prog w) A (Builtin.«enumerate.__next__» ⟨[.ref e], []⟩) (fun fin s' => ∃ v, fin = .done (.ret v) ∧ Q v s') E s := by
  obtain ⟨hp, g, d, tk, os⟩ := s
  have lt : e < hp.objs.size := Heap.lt_size he
  show wpAny _ _ (field (.ref e) 2 >>= _) _ _ _
  refine wpAny_bind (wpAny_field he rfl (x := .ref it) rfl (wpAny_bind (RZ.nextOf_tuple_item hit hl hx fun g1 t1 s1 => ?_)))
  replace s1 : Heap.SameBut it hp g1 := s1
  have e1 : IsEnum g1 e it i old := (s1.2 e ne).trans he
  show wpAny _ _ (field (.ref e) 3 >>= _) _ _ ⟨g1, g, d, tk, os⟩
  refine wpAny_bind (wpAny_field e1 rfl (x := rawInt i) rfl ?_)
  show wpAny _ _ (field (.ref e) 4 >>= _) _ _ ⟨g1, g, d, tk, os⟩
  refine wpAny_bind (wpAny_field e1 rfl (x := .none) rfl ?_)
  show wpAny _ _ (mkInt i >>= _) _ _ ⟨g1, g, d, tk, os⟩
  refine wpAny_bind (wpAny_mkInt ?_)
  show wpAny _ _ (setField (.ref e) 3 (rawInt ((i : Int) + 1)) >>= _) _ _ ⟨g1, g, d, tk + 1, os⟩
  refine wpAny_bind (wpAny_setField_rec e1 (by simp) fun g2 e2 s2 => ?_)
  replace s2 : Heap.SameBut e g1 g2 := s2
  replace e2 : IsEnum g2 e it ((i : Int) + 1) old := e2
  show wpAny _ _ (setField (.ref e) 4 .none >>= _) _ _ ⟨g2, g, d, tk + 1, os⟩
  refine wpAny_bind (wpAny_setField_rec e2 (by simp) fun g3 e3 s3 => ?_)
  replace s3 : Heap.SameBut e g2 g3 := s3
  replace e3 : IsEnum g3 e it ((i : Int) + 1) old := e3
  show wpAny _ _ (newTuple [.int i tk, x] >>= _) _ _ ⟨g3, g, d, tk + 1, os⟩
  refine wpAny_bind (wpAny_newTuple ?_)
  have sz : g3.objs.size = hp.objs.size := by rw [s3.1, s2.1, s1.1]
  have t3 : g3.IsTupleIter it l (i + 1) := (t1.extBut s2.extBut (Ne.symm ne)).extBut s3.extBut (Ne.symm ne)
  have k3 : ∀ b o, b ≠ e → b ≠ it → hp.get? b = some o → g3.get? b = some o := fun b o n1 n2 q => s3.extBut b o n1 (s2.extBut b o n1 (s1.extBut b o n2 q))
  have e4 : IsEnum (g3.push { cls := .type "tuple", data := .seq #[.int i tk, x] }) e it ((i : Int) + 1) old := Heap.get?_push_of_some _ e3
  have p4 : (g3.push { cls := .type "tuple", data := .seq #[.int i tk, x] }).get? hp.objs.size = some { cls := .type "tuple", data := .seq #[.int i tk, x] } := by
    have z := Heap.get?_push_size g3 (o := { cls := .type "tuple", data := .seq #[.int i tk, x] }) rfl
    rwa [sz] at z
  have z4 : (g3.push { cls := .type "tuple", data := .seq #[.int i tk, x] }).objs.size = hp.objs.size + 1 := by rw [Heap.size_push, sz]
  have k4 : ∀ b o, b ≠ e → b ≠ it → hp.get? b = some o → (g3.push { cls := .type "tuple", data := .seq #[.int i tk, x] }).get? b = some o := fun b o n1 n2 q => Heap.get?_push_of_some _ (k3 b o n1 n2 q)
  have t4 : (g3.push { cls := .type "tuple", data := .seq #[.int i tk, x] }).IsTupleIter it l (i + 1) := let ⟨o, ho, r⟩ := t3; ⟨o, Heap.get?_push_of_some _ ho, r⟩
  rw [sz]
  generalize g3.push { cls := .type "tuple", data := .seq #[.int i tk, x] } = g4 at e4 p4 z4 k4 t4 ⊢
  show wpAny _ _ (Builtin.SmallTypes.ownedTupleIsFree (.ref e) >>= _) _ _ ⟨g4, g, d, tk + 1, os⟩
  refine wpAny_bind ?_
  unfold Builtin.SmallTypes.ownedTupleIsFree
  refine wpAny_bind (wpAny_field e4 rfl (x := .none) rfl (wpAny_pure ?_))
  simp only [if_true]
  refine wpAny_bind (wpAny_rule (wpAny_bind (wpAny_field e4 rfl (x := old) rfl (wpAny_bind (wpAny_setField_rec e4 (by simp) fun g5 e5 s5 => ?_)))))
  replace s5 : Heap.SameBut e g4 g5 := s5
  replace e5 : IsEnum g5 e it ((i : Int) + 1) x := e5
  show wpAny _ _ (Builtin.SmallTypes.ownedTupleHandOut (.ref e) (.ref hp.objs.size) >>= _) _ _ ⟨g5, g, d, tk + 1, os⟩
  refine wpAny_bind ?_
  unfold Builtin.SmallTypes.ownedTupleHandOut
  refine wpAny_bind (wpAny_setField_rec e5 (by simp) fun g6 e6 s6 => ?_)
  replace s6 : Heap.SameBut e g5 g6 := s6
  replace e6 : IsEnumOut g6 e it ((i : Int) + 1) x hp.objs.size := e6
  refine wpAny_setField_rec e6 (by simp) fun g7 e7 s7 => ?_
  replace s7 : Heap.SameBut e g6 g7 := s7
  replace e7 : IsEnumOut g7 e it ((i : Int) + 1) x hp.objs.size := e7
  have en : hp.objs.size ≠ e := Nat.ne_of_gt lt
  exact wpAny_bind (wpAny_letGo (wpAny_pure ⟨_, rfl, hQ g7 e7 (((t4.extBut s5.extBut (Ne.symm ne)).extBut s6.extBut (Ne.symm ne)).extBut s7.extBut (Ne.symm ne)) (s7.extBut _ _ en (s6.extBut _ _ en (s5.extBut _ _ en p4))) (by rw [s7.1, s6.1, s5.1, z4])
    fun b o n1 n2 q => s7.extBut b o n1 (s6.extBut b o n1 (s5.extBut b o n1 (k4 b o n1 n2 q)))⟩))
theorem next_enumT {e it l : Addr} {i : Nat} {items : Array Value} {x old : Value} {Q : Option Value → Shared → Prop} (he : IsEnum s.heap e it i old) (hit : s.heap.IsTupleIter it l i) (hl : s.heap.IsTuple l items) (hx : items[i]? = some x) (ne : e ≠ it)
    (hQ : ∀ h', IsEnumOut h' e it ((i : Int) + 1) x s.heap.objs.size → h'.IsTupleIter it l (i + 1) → h'.get? s.heap.objs.size = some { cls := .type "tuple", data := .seq #[.int i s.toks, x] } → h'.objs.size = s.heap.objs.size + 1 →
      (∀ b o, b ≠ e → b ≠ it → s.heap.get? b = some o → h'.get? b = some o) → Q (some (.ref s.heap.objs.size)) { s with heap := h', toks := s.toks + 1 }) :
    wpAny (model prog w) A (pyNext (.ref e)) Q E s := by
  have hT : s.TypeIs (.ref e) "enumerate" := ⟨_, he, rfl⟩
  unfold pyNext
  exact wpAny_bind (wpAny_attempt (wpAny_callSpecial?_slot (name := Str.ofString "__next__") hT F.slot_enumerate_next (wpAny_call_entry F.slot_enumerate_next hT F.entry_enumerate_next (enumT_item he hit hl hx ne fun h' a b c d k => wpAny_pure (hQ h' a b c d k)) (F.args_enumerate_next_1 _))))
theorem end_enumT {e it l : Addr} {i : Nat} {items : Array Value} {old : Value} {Q : Option Value → Shared → Prop} (hh : A.handled = none) (he : IsEnum s.heap e it i old) (hit : s.heap.IsTupleIter it l i) (hl : s.heap.IsTuple l items) (hx : items[i]? = none)
    (hQ : ∀ h', Heap.ExtBut it s.heap h' → Q none { s with heap := h' }) : wpAny (model prog w) A (pyNext (.ref e)) Q E s := by
  have hT : s.TypeIs (.ref e) "enumerate" := ⟨_, he, rfl⟩
  unfold pyNext
  refine wpAny_bind (wpAny_attempt (wpAny_callSpecial?_slot (name := Str.ofString "__next__") hT F.slot_enumerate_next (wpAny_call_entry F.slot_enumerate_next hT F.entry_enumerate_next ?_ (F.args_enumerate_next_1 _))))
  show wpAny _ _ (field (.ref e) 2 >>= _) _ _ _
  refine wpAny_bind (wpAny_field he rfl (x := .ref it) rfl (wpAny_bind (RZ.nextOf_tuple_end hh hit hl hx fun h' x eb hx' => ?_)))
  obtain ⟨o, ho, hc⟩ := hx'
  exact wpAny_bind (wpAny_isInstance (T := "StopIteration") (b := true) ⟨o, ho, hc⟩ isSubtype_stop (wpAny_pure (hQ _ eb)))
end
open L2 Evl
/-- the tuple at a, each item in a new pair -/
def IteT (K : PySem.W.Frag) (a : Addr) : It :=
  ⟨fun i H => ∃ (xs : List V) (x : V), SqT K H a xs ∧ xs[i]? = some x, fun i H v H' => ∃ T x, v = .ref T ∧ H T = none ∧ H' = upd H T (.tup [.int (i : Nat), x]) ∧ ∀ xs, SqT K H a xs → xs[i]? = some x, fun i H => ∃ xs : List V, SqT K H a xs ∧ xs.length ≤ i⟩
theorem turn_enumT {P : Program} {w : World} {K : PySem.W.Frag} {elts : List Expr} {kk : Nat} {tpos : Pos} (a e it : Addr) :
    Turn P w K (.Tuple elts kk tpos) (IteT K a) [e, it] e (fun i h => (∃ old, IsEnum h e it ((i : Nat) : Int) old) ∧ h.IsTupleIter it a i ∧ e ≠ it) where
  mem := by simp
  obj := fun i h st b hb => by
    obtain ⟨⟨old, he⟩, ⟨o, ho, hc, hd⟩, _⟩ := st
    rcases (by simpa using hb : b = e ∨ b = it) with rfl | rfl
    · exact ⟨_, he, fun v q => nomatch q⟩
    · exact ⟨o, ho, fun v q => by rw [hd] at q; cases q⟩
  keep := fun i h h' st k => let ⟨⟨old, he⟩, hi, hne⟩ := st; ⟨⟨old, k e (by simp) _ he⟩, hi.at fun o q => k it (by simp) o q, hne⟩
  item := by
    intro X hP hw hK hc i pins s σ H E I hf st hg
    subst hP hw hK
    obtain ⟨⟨old, he⟩, hit, hne⟩ := st
    obtain ⟨xs, x, hq, hx⟩ := hg
    obtain ⟨its, rv, p, hz⟩ := I.tuple hq
    obtain ⟨u, hu, ru⟩ := rv.get hx
    have le : e < s.heap.objs.size := Heap.lt_size he
    have li : it < s.heap.objs.size := by obtain ⟨_, q, _⟩ := hit; exact Heap.lt_size q
    refine next_enumT he hit (show s.heap.IsTuple a its.toArray from p) (x := u) (by simpa using hu) hne fun h1 ho hit1 hT sz hk => ⟨_, rfl, wpAny_letOwnedTupleGo_enum (s := { s with heap := h1, toks := s.toks + 1 }) ho fun h2 he2 sb => ?_⟩
    have hT2 : h2.get? s.heap.objs.size = some { cls := .type "tuple", data := .seq #[.int i s.toks, u] } := (sb.2 _ (Nat.ne_of_gt le)).trans hT
    have nw1 : ObjOk X.prog X.w (upd H s.heap.objs.size (.tup [.int (i : Nat), x])) h2 s.heap.objs.size (.tup [.int (i : Nat), x]) := ⟨by show 2 ≤ sizeLine; decide, [.int i s.toks, u], .cons ⟨_, rfl⟩ (.cons ru .nil), ⟨_, hT2, rfl, _, rfl⟩⟩
    have I1 : Inv X pins σ (upd H s.heap.objs.size (.tup [.int (i : Nat), x])) { s with heap := h2, toks := s.toks + 1 } := I.turnedNew (ch := [e, it]) (fun b ob hb q => (sb.2 b (fun z => hb (by simp [z]))).trans (hk b ob (fun z => hb (by simp [z])) (fun z => hb (by simp [z])) q)) hf (Nat.le_refl _) nw1
    refine ⟨.ref s.heap.objs.size, _, I1, rfl, ⟨_, x, rfl, I.hok.fresh (Nat.le_refl _), rfl, fun ys hy => by rw [I.tuple_inj hy hq]; exact hx⟩, ⟨⟨u, ?_⟩, hit1.at fun o q => (sb.2 it (Ne.symm hne)).trans q, hne⟩, fun b hb => ?_⟩
    · rw [show ((i + 1 : Nat) : Int) = (i : Int) + 1 by omega]; exact he2
    · have lb : b < s.heap.objs.size := by
        rcases (by simpa using hb : b = e ∨ b = it) with rfl | rfl
        · exact le
        · exact li
      rw [upd_ne (Nat.ne_of_lt lb)]
      exact (hf b hb).1
  done := by
    intro X hP hw hK hc i pins s σ H E I hf st hg
    subst hP hw hK
    obtain ⟨⟨old, he⟩, hit, hne⟩ := st
    obtain ⟨xs, hq, hx⟩ := hg
    obtain ⟨its, rv, p, hz⟩ := I.tuple hq
    obtain ⟨f0, f1, f2, f3, f4, f5⟩ := hf it (by simp)
    have hl := rv.length
    exact end_enumT (I.ok.hd hc) he hit (show s.heap.IsTuple a its.toArray from p) (by simp; omega) fun h1 eb => ⟨rfl, I.turned (t' := s.toks) (fun b o hb q => eb b o hb q) f0 f1 f3 f4 f5⟩
  self := fun A i s Q E st h => let ⟨⟨_, he⟩, _⟩ := st; wpAny_pyIter_enum he h
def iEnumT (K : PySem.W.Frag) (ta : TA) : TI := fun σ H R => ta σ H fun vs H1 => ∃ a xs, vs = [.ref a] ∧ SqT K H1 a xs ∧ R (IteT K a) H1
theorem pi_enumT {X : Cx} {e : Expr} {ta : TA} {p pos tpos : Pos} {elts : List Expr} {kk : Nat} (hg : Gl X "enumerate") (hm : X.mg "enumerate" = none) (ha : PA X [e] ta) (hs : starEach [e] X.env = [(false, eval e X.env)] := by rfl) :
    PI X (.Tuple elts kk tpos) (.Call (.Name "enumerate" p) [e] [] pos) (iEnumT X.K ta) := by
  refine ⟨fun pins s σ H R I h => ?_⟩
  refine Call_ (ld_blt I hg hm boot_enumerate (PyProof.Rows.callWith_type1 (thn (ha.run pos pins s σ H _ I h) fun us s1 ⟨vs, H1, I1, r1, a, xs, ex, hq, q⟩ => ?_) hs rfl))
  subst ex
  cases r1 with
  | cons r rr =>
    cases rr
    cases r
    obtain ⟨its, rv, p2, hz⟩ := I1.tuple hq
    refine call_enumT (show s1.heap.IsTuple a its.toArray from p2) fun h1 he hit sz hk => wpAny_pyIter_enum he ?_
    have I2 : Inv X pins σ H1 { s1 with heap := h1 } := I1.kept (t' := s1.toks) hk
    refine ⟨s1.heap.objs.size + 1, [s1.heap.objs.size + 1, s1.heap.objs.size], _, _, H1, rfl, I2, turn_enumT a (s1.heap.objs.size + 1) s1.heap.objs.size, ⟨⟨.none, he⟩, hit, Nat.succ_ne_self _⟩, fun b hb => ?_, q⟩
    have le : s1.heap.objs.size ≤ b := by
      rcases (by simpa using hb : b = s1.heap.objs.size + 1 ∨ b = s1.heap.objs.size) with rfl | rfl
      · exact Nat.le_add_right _ _
      · exact Nat.le_refl _
    exact I1.fpOk le (I1.hok.fresh le)
end Sl
/-! ## SlSrv2 -/
namespace Sl
open PySem PySem.Spec PyProof.Rows L2 Evl
open R7239g.Spec (natOrNull markPlain loginPlain sessionPlain deskPlain newDesk loginAt sessionAt isThief currentOf knownFrom pageFrom sees seesCode seesNumber signedAs)
/-! ### servers in the heap -/
def StsAt (K : PySem.W.Frag) (H : Hp) : List V → List SD → Prop
  | vs, [] => vs = []
  | vs, d :: r => ∃ us t, vs = us ++ [.ref t] ∧ StateAt K H t d ∧ StsAt K H us r
theorem StsAt.im {K : PySem.W.Frag} {H H' : Hp} (e : Im H H') : ∀ {vs : List V} {l : List SD}, StsAt K H vs l → StsAt K H' vs l
  | vs, [], h => h
  | vs, x :: r, ⟨us, t, a, b, c⟩ => ⟨us, t, a, b.im e, StsAt.im e c⟩
theorem StsAt.len {K : PySem.W.Frag} {H : Hp} : ∀ {vs : List V} {l : List SD}, StsAt K H vs l → vs.length = l.length
  | vs, [], h => by rw [show vs = [] from h]; rfl
  | vs, x :: r, ⟨us, t, a, b, c⟩ => by rw [a, List.length_append, c.len]; rfl
abbrev svF (ra l : Addr) : List (Str × V) := [("rules", .ref ra), ("states", .ref l)]
/-- a server under way: its states' list at l -/
def SrvAt (K : PySem.W.Frag) (H : Hp) (a l : Addr) (r : SR) (ds : List SD) : Prop := ∃ dx ra vs, H a = some (.ins (He.ga K "Server") dx (svF ra l)) ∧ RulesAt K H ra r ∧ H l = some (.lst vs) ∧ StsAt K H vs ds
/-- its newest state -/
def Sv (K : PySem.W.Frag) (H : Hp) (a : Addr) (w : SD) : Prop := ∃ dx ra l us t, H a = some (.ins (He.ga K "Server") dx (svF ra l)) ∧ RulesAt K H ra w.rules ∧ H l = some (.lst (us ++ [.ref t])) ∧ StateAt K H t w
theorem Sv.mono {K : PySem.W.Frag} {H H' : Hp} {a : Addr} {w : SD} (e : Ex H H') (h : Sv K H a w) : Sv K H' a w := by
  obtain ⟨dx, ra, l, us, t, h1, h2, h3, h4⟩ := h
  exact ⟨dx, ra, l, us, t, e _ _ h1, h2.mono e, e _ _ h3, h4.im (Im.of e)⟩
theorem SrvAt.sv {K : PySem.W.Frag} {H : Hp} {a l : Addr} {r : SR} {w : SD} {ds : List SD} (h : SrvAt K H a l r (w :: ds)) (e : w.rules = r) : Sv K H a w := by
  obtain ⟨dx, ra, vs, h1, h2, h3, us, t, rfl, h4, _⟩ := h
  exact ⟨dx, ra, l, us, t, h1, by rw [e]; exact h2, h3, h4⟩
theorem SrvAt.mono {K : PySem.W.Frag} {H H' : Hp} {a l : Addr} {r : SR} {ds : List SD} (e : Ex H H') (h : SrvAt K H a l r ds) : SrvAt K H' a l r ds := by
  obtain ⟨dx, ra, vs, h1, h2, h3, h4⟩ := h
  exact ⟨dx, ra, vs, e _ _ h1, h2.mono e, e _ _ h3, h4.im (Im.of e)⟩
section
variable {K : PySem.W.Frag} {σ : L2.St} {F H : Hp} {te ta tb tc to : TE} {E : XK}
theorem ev_ixT {p : Addr} {xs : List V} {i : Int} {v : V} (ha : Ev ta σ F (.ref p)) (hb : Ev tb σ F (.int i)) (h : F p = some (.tup xs)) (hi : atI xs i = some v) : Ev (tOp (rIxT K) ta tb) σ F v := ev_op ha hb (rv_ixT (st_of h) hi)
def spSt (K : PySem.W.Frag) : Sp := fun vs H Q _ => ∃ (a dx l t : Addr) (ra : V) (us : List V), vs = [.ref a] ∧ H a = some (.ins (He.ga K "Server") dx [("rules", ra), ("states", .ref l)]) ∧ H l = some (.lst (us ++ [.ref t])) ∧ ∀ H', Ex H H' → Q (.ref t) H'
theorem ev_st {a dx ra l t : Addr} {us : List V} (h : Ev to σ F (.ref a)) (ha : F a = some (.ins (He.ga K "Server") dx (svF ra l))) (hl : F l = some (.lst (us ++ [.ref t]))) : Ev (tMeth (He.ga K "Server") "state" (spSt K) [] E to tNil) σ F (.ref t) :=
  ev_meth h ha rfl ea_nil fun H1 e Q E q => ⟨a, dx, l, t, .ref ra, us, rfl, e _ _ ha, e _ _ hl, fun H' e' => q _ H' e' rfl⟩
theorem atI_nat {α : Type} {xs : List α} {i : Nat} {v : α} (h : xs[i]? = some v) : atI xs (i : Int) = some v := by
  obtain ⟨hi, e⟩ := List.getElem?_eq_some_iff.mp h
  unfold atI
  rw [ixN_nat hi]
  exact h
theorem ev_addN {a b : Nat} (ha : Ev ta σ F (.int a)) (hb : Ev tb σ F (.int b)) : Ev (tOp (rI0 fun i j => .int (i + j)) ta tb) σ F (.int ((a + b : Nat) : Int)) := ev_is (ev_int (g := fun i j => .int (i + j)) (i := (a : Int)) (j := (b : Int)) ha hb) (by rw [Int.natCast_add])
/-- State(now, logins, sessions) -/
theorem eg_state {w : SD} (hn : Ev ta σ F (.int w.now)) (hl : Eg tb σ F fun v H => ∃ p ls, v = .ref p ∧ H p = some (.tup ls) ∧ LoginsAt K H ls w.logins) (hs : Eg tc σ F fun v H => ∃ p ss, v = .ref p ∧ H p = some (.tup ss) ∧ SesssAt H ss w.sessions) :
    Eg (tMake (He.ga K "State") (spFields (He.ga K "State") 3 soF) [] E (tCons ta (tCons tb (tCons tc tNil)))) σ F fun v H => ∃ t, v = .ref t ∧ StateAt K H t w := fun H1 e Q q =>
  hn H1 e _ fun H2 e2 => hl H2 (e.trans e2) _ fun v1 H3 e3 p3 => hs H3 ((e.trans e2).trans e3) _ fun v2 H4 e4 p4 => by
    obtain ⟨lt, ls, rfl, h1, h2⟩ := p3
    obtain ⟨st, ss, rfl, h3, h4⟩ := p4
    intro x dx nx nd ne
    refine ⟨x, dx, [.int w.now, .ref lt, .ref st], rfl, rfl, upd_same, fun H' hx k => ⟨rfl, ?_⟩⟩
    have x5 : Ex H4 H' := fun b o hb => Same.made nx nd k b o hb
    exact q (.ref x) H' (((e2.trans e3).trans e4).trans x5) ⟨x, rfl, dx, lt, st, ls, ss, hx, x5 _ _ (e4 _ _ h1), h2.im (Im.of (e4.trans x5)), x5 _ _ h3, h4.im (Im.of x5)⟩
theorem eg_lgs {p : Addr} {ls : List V} {l : List SLg} (h : Ev te σ F (.ref p)) (hp : F p = some (.tup ls)) (hl : LoginsAt K F ls l) : Eg te σ F fun v H => ∃ p ls, v = .ref p ∧ H p = some (.tup ls) ∧ LoginsAt K H ls l := eg_ev h fun H1 e => ⟨p, ls, rfl, e _ _ hp, hl.im (Im.of e)⟩
theorem eg_sss {p : Addr} {ss : List V} {l : List (Option SSs)} (h : Ev te σ F (.ref p)) (hp : F p = some (.tup ss)) (hl : SesssAt F ss l) : Eg te σ F fun v H => ∃ p ss, v = .ref p ∧ H p = some (.tup ss) ∧ SesssAt H ss l := eg_ev h fun H1 e => ⟨p, ss, rfl, e _ _ hp, hl.im (Im.of e)⟩
theorem egt_lgs {ls : List V} {l : List SLg} (h : EgT te σ F ls) (hl : LoginsAt K F ls l) : Eg te σ F fun v H => ∃ p ls, v = .ref p ∧ H p = some (.tup ls) ∧ LoginsAt K H ls l := fun H1 e Q q => h H1 e Q fun v H2 e2 p => by
  obtain ⟨a, rfl, ha⟩ := p
  exact q _ H2 e2 ⟨a, ls, rfl, ha, hl.im (Im.of (e.trans e2))⟩
theorem egt_sss {ss : List V} {l : List (Option SSs)} (h : EgT te σ F ss) (hl : SesssAt F ss l) : Eg te σ F fun v H => ∃ p ss, v = .ref p ∧ H p = some (.tup ss) ∧ SesssAt H ss l := fun H1 e Q q => h H1 e Q fun v H2 e2 p => by
  obtain ⟨a, rfl, ha⟩ := p
  exact q _ H2 e2 ⟨a, ss, rfl, ha, hl.im (Im.of (e.trans e2))⟩
end
/-! ### promises -/
def spTP (K : PySem.W.Frag) : Sp := fun vs H Q _ => ∃ (v : V) (o : Option SMk), vs = [v] ∧ MarkAt H v o ∧ ∀ u H', Ex H H' → ValAt K (nw H H') u (gv (markPlain o)) → Q u H'
def spLT (K : PySem.W.Frag) : Sp := fun vs H Q _ => ∃ (a : Addr) (x : SLg), vs = [.ref a] ∧ LoginAt K H (.ref a) x ∧ ∀ u H', Ex H H' → ValAt K (nw H H') u (gv (loginPlain x)) → Q u H'
def spLat (K : PySem.W.Frag) : Sp := fun vs H Q _ => ∃ (a : Addr) (w : SD) (n : Nat), vs = [.ref a, .int n] ∧ StateAt K H a w ∧ ∀ t H', Ex H H' → StateAt K H' t { w with now := w.now + n } → Q (.ref t) H'
def spWL (K : PySem.W.Frag) : Sp := fun vs H Q _ => ∃ (a : Addr) (w : SD) (i : Nat) (v : V) (x : SLg), vs = [.ref a, .int i, v] ∧ StateAt K H a w ∧ i < w.logins.length ∧ w.logins.length ≤ 1000 ∧ LoginAt K H v x ∧ ∀ t H', Ex H H' → StateAt K H' t { w with logins := w.logins.set i x } → Q (.ref t) H'
def spWS (K : PySem.W.Frag) : Sp := fun vs H Q _ => ∃ (a : Addr) (w : SD) (i : Nat) (v : V) (x : Option SSs), vs = [.ref a, .int i, v] ∧ StateAt K H a w ∧ i < w.sessions.length ∧ w.sessions.length ≤ 1000 ∧ SessAt H v x ∧ ∀ t H', Ex H H' → StateAt K H' t { w with sessions := w.sessions.set i x } → Q (.ref t) H'
def spSrvI (K : PySem.W.Frag) : Sp := fun vs H Q _ => ∃ (p dx ra : Addr) (r : SR), vs = [.ref p, .ref ra] ∧ H p = some (.ins (He.ga K "Server") dx []) ∧ RulesAt K H ra r ∧ ra ≠ p ∧ ∀ l t H', H' p = some (.ins (He.ga K "Server") dx (svF ra l)) → H l = none → H' l = some (.lst [.ref t]) → StateAt K H' t (newDesk r) → (∀ b o, H b = some o → b ≠ p → H' b = some o) → Q .non H'
def spKF (K : PySem.W.Frag) : Sp := fun vs H Q _ => ∃ (a : Addr) (w : SD) (b t : Nat), vs = [.ref a, .int b, .int t] ∧ Sv K H a w ∧ ∀ H', Ex H H' → Q (.int (knownFrom w.rules b t : Nat)) H'
def spIC (K : PySem.W.Frag) : Sp := fun vs H Q _ => ∃ (a : Addr) (w : SD) (b n : Nat), vs = [.ref a, .int b, .int n] ∧ Sv K H a w ∧ w.logins.length ≤ 1000 ∧ ∀ H', Ex H H' → Q (.bl (currentOf w b == some n)) H'
def spSB (K : PySem.W.Frag) : Sp := fun vs H Q _ => ∃ (a : Addr) (w : SD) (p n t : Nat), vs = [.ref a, .int p, .int n, .int t] ∧ Sv K H a w ∧ n < w.logins.length ∧ w.logins.length ≤ 1000 ∧ ∀ H', Ex H H' → Q (.bl (sees w p n t)) H'
def spSC (K : PySem.W.Frag) (f : SD → Nat → Nat → Bool) : Sp := fun vs H Q _ => ∃ (a : Addr) (w : SD) (p n : Nat), vs = [.ref a, .int p, .int n] ∧ Sv K H a w ∧ n < w.logins.length ∧ w.logins.length ≤ 1000 ∧ ∀ H', Ex H H' → Q (.bl (f w p n)) H'
section
variable {K : PySem.W.Frag} {σ : L2.St} {F : Hp} {te tf to : TE} {E : XK}
theorem eb_pair {B : Hp} {v : V} {o : Option SMk} (d : Dom B F) (h : Ev te σ F v) (hv : MarkAt F v o) : EgB K B (tCall (spTP K) [] E (tCons te tNil)) σ F (gv (markPlain o)) := fun H1 e Q q =>
  h H1 e _ fun H2 e2 => ⟨v, o, rfl, hv.im (Im.of (e.trans e2)), fun u H3 e3 p => q u H3 (e2.trans e3) (p.mono (nw_mono (d.trans (Dom.of (e.trans e2))) (Ex.refl _)))⟩
theorem ev_kf {a : Addr} {w : SD} {b t : Nat} (hs : Sv K F a w) (ho : Ev to σ F (.ref a)) (h : Ev te σ F (.int b)) (h2 : Ev tf σ F (.int t)) : Ev (tMeth (He.ga K "Server") "known_from" (spKF K) [] E to (tCons te (tCons tf tNil))) σ F (.int (knownFrom w.rules b t : Nat)) := by
  have hs' := hs
  obtain ⟨dx, ra, l, us, t', h1, _⟩ := hs
  exact ev_meth ho h1 rfl (ea_cons h (ea_cons h2 ea_nil)) fun H1 e Q E q => ⟨a, w, b, t, rfl, hs'.mono e, fun H' e' => q _ H' e' rfl⟩
end
local macro_rules
  | `(tactic| walk_at "ev") => `(tactic| first
    | exact ev_c
    | exact ev_var rfl
    | ((with_reducible refine' ev_fld ?k1 ?k2 ?k3 ?k4 ?k5); (case k1 => walk_at "ev"); (case k2 => assumption); (case k3 => exact Tx.cl (by assumption) rfl); (case k4 => exact Tx.na (by assumption) rfl); (case k5 => rfl))
    | (refine' ev_st ?k1 ?k2 ?k3; (case k1 => walk_at "ev"); (case k2 => assumption); (case k3 => assumption))
    | ((with_reducible refine' ev_ixT ?k1 ?k2 ?k3 ?k4); (case k1 => walk_at "ev"); (case k2 => walk_at "ev"); (case k3 => assumption); (case k4 => first | assumption | rfl))
    | (refine' ev_isN ?k1; (case k1 => walk_at "ev"))
    | (refine' ev_notN ?k1; (case k1 => walk_at "ev"))
    | (refine' ev_int ?k1 ?k2; (case k1 => walk_at "ev"); (case k2 => walk_at "ev"))
    | ((with_reducible refine' ev_sc ?k1 ?k2 ?k3); (case k1 => walk_at "ev"); (case k2 => walk_at "ev"); (case k3 => rfl))
    | ((with_reducible refine' ev_scn ?k1 ?k2 ?k3); (case k1 => walk_at "ev"); (case k2 => walk_at "ev"); (case k3 => rfl))
    | ((with_reducible refine' ev_notV ?k1); (case k1 => walk_at "ev"))
    | ((with_reducible refine' ev_andV ?k1 ?k2); (case k1 => walk_at "ev"); (case k2 => intro _; walk_at "ev"))
    | ((with_reducible refine' ev_orV ?k1 ?k2); (case k1 => walk_at "ev"); (case k2 => intro _; walk_at "ev"))
    | ((with_reducible refine' et_test ?k1); (case k1 => walk_at "ev"))
    | ((with_reducible refine' et_B ?k1); (case k1 => walk_at "ev"))
    | ((with_reducible refine' et_and ?k1 ?k2); (case k1 => walk_at "ev"); (case k2 => intro _; walk_at "ev"))
    | ((with_reducible refine' et_or ?k1 ?k2); (case k1 => walk_at "ev"); (case k2 => intro _; walk_at "ev"))
    | ((with_reducible refine' et_not ?k1); (case k1 => walk_at "ev"))
    | exact ea_nil
    | ((with_reducible refine' ea_cons ?k1 ?k2); (case k1 => walk_at "ev"); (case k2 => walk_at "ev")))
section
variable {P : Program} {w : World} {K : PySem.W.Frag} {mg : Str → Option Value} {base : Heap}
theorem sc_told_pair : FnScope ["pair"] ["pair"] d_told_pair.scope := ⟨rfl, rfl, rfl, by decide +kernel, rfl, by decide +kernel, by decide +kernel⟩
theorem ok_told_pair (T : Tx w K mg) : FnOk P w K mg base CX0 3 (He.ga K "told_pair") (fdOf K (He.ga K "told_pair")) ["pair"] (spTP K) := by
  refine mkOk T.F_told_pair ⟨rfl, rfl⟩ sc_told_pair (fun vs H Q E h => ?_) (fun cdv A outer s H vs Q E hr h => ⟨_, (pss_one (ps_ret (pe_ifExp (pt_cmpR op_isN (pv 0) pe_non (nomark _)) pe_non (pe_make T.k_Record (ok_Record_init T) (hr.mono (by decide)) rfl T.g_Record T.B_Record_init .nil pass0 (pa_cons (pe_lst (pa_cons (pe_tup (pa_cons pe_str (pa_cons (pe_ix ix_tup (pv 0) pe_int (fun _ _ => rfl)) pa_nil))) (pa_cons (pe_tup (pa_cons pe_str (pa_cons (pe_ix ix_tup (pv 0) pe_int (fun _ _ => rfl)) pa_nil))) pa_nil))) pa_nil))))), ?_⟩)
  · (repeat (first | exact congrArg List.length h.1 | obtain ⟨_, h⟩ := h))
  · obtain ⟨v, o, rfl, hv, q⟩ := h
    cases o with
    | none =>
      obtain rfl : v = .non := hv
      exact pr_ret (F := H) (v := .non) (ev_iteT (et_is (et_B (ev_isN (ev_var (v := .non) rfl))) rfl) ev_c) (fun H' e => q .non H' e (by show ValAt K _ _ .null; unfold ValAt; rfl)) H (Ex.refl H)
    | some m =>
      obtain ⟨t, rfl, ht⟩ := hv
      refine pr_retG (F := H) (P := fun v G => ValAt K (nw H G) v (.record [(us "phone", .int m.phone), (us "time", .int m.time)])) (gb_if (b := false) (et_is (et_B (ev_isN (ev_var (v := .ref t) rfl))) rfl) (fun h => Bool.noConfusion h) fun _ => ?_) (fun u H' e p => q u H' e p) H (Ex.refl H)
      exact gb_record (Dom.refl H) (gb_lst (Dom.refl H) (gbs_cons (Dom.refl H) (by decide +kernel) (gb_int (by walk_at "ev")) (gbs_cons (Dom.refl H) (by decide +kernel) (gb_int (by walk_at "ev")) gbs_nil)) rfl)
theorem sc_Login_told : FnScope ["self", "members"] ["self"] d_Login_told.scope := ⟨rfl, rfl, rfl, by decide +kernel, rfl, by decide +kernel, by decide +kernel⟩
theorem ok_Login_told (T : Tx w K mg) : FnOk P w K mg base CX0 4 (He.ma K (He.ga K "Login") "told") (fdOf K (He.ma K (He.ga K "Login") "told")) ["self"] (spLT K) := by
  refine mkOk T.F_Login_told ⟨rfl, rfl⟩ sc_Login_told (fun vs H Q E h => ?_) (fun cdv A outer s H vs Q E hr h => ⟨_, (pss_cons (ps_set (i := 1) sc_Login_told.nd rfl (Or.inl rfl) (pe_lst (pa_cons (pe_tup (pa_cons pe_str (pa_cons (pe_fld (pv 0) rfl) pa_nil))) (pa_cons (pe_tup (pa_cons pe_str (pa_cons (pe_fld (pv 0) rfl) pa_nil))) (pa_cons (pe_tup (pa_cons pe_str (pa_cons (pe_call (ok_told_pair T) (hr.mono (by decide)) rfl T.g_told_pair T.kp_told_pair T.B_told_pair .nil pass0 (pa_cons (pe_fld (pv 0) rfl) pa_nil)) pa_nil))) pa_nil))))) (pss_one (ps_ret (pe_make T.k_Record (ok_Record_init T) (hr.mono (by decide)) rfl T.g_Record T.B_Record_init .nil pass0 (pa_cons (pe_op op_cat (pv 1) (pe_lst (pa_cons (pe_tup (pa_cons pe_str (pa_cons (pe_call (ok_told_pair T) (hr.mono (by decide)) rfl T.g_told_pair T.kp_told_pair T.B_told_pair .nil pass0 (pa_cons (pe_fld (pv 0) rfl) pa_nil)) pa_nil))) (pa_cons (pe_tup (pa_cons pe_str (pa_cons (pe_fld (pv 0) rfl) pa_nil))) pa_nil)))) pa_nil))))), ?_⟩)
  · (repeat (first | exact congrArg List.length h.1 | obtain ⟨_, h⟩ := h))
  · obtain ⟨a, x, rfl, hx, q⟩ := h
    obtain ⟨a', dx, s', g', ea, ha, hs, hg⟩ := hx
    obtain rfl : a = a' := by injection ea
    refine pr_asgG (F := H) (P := fun v G => ∃ m ts, v = .ref m ∧ nw H G m = some (.lst ts) ∧ EntsAt K (nw H G) ts [(us "browser", .int x.browser), (us "made", .int x.made), (us "scan", gv (markPlain x.scan))]) ?_ (fun v H1 x1 hv => ?_) H (Ex.refl H)
    · exact gb_lst (Dom.refl H) (gbs_cons (Dom.refl H) (by decide +kernel) (gb_int (by walk_at "ev")) (gbs_cons (Dom.refl H) (by decide +kernel) (gb_int (by walk_at "ev")) (gbs_cons (Dom.refl H) (by decide +kernel) (eb_pair (Dom.refl H) (by walk_at "ev") hs) gbs_nil))) rfl
    obtain ⟨m, ts, rfl, hm, he⟩ := hv
    have ha1 := x1 _ _ ha
    have d1 : Dom H H1 := Dom.of x1
    refine pr_retG (P := fun v G => ValAt K (nw H G) v (.record ([(us "browser", .int x.browser), (us "made", .int x.made), (us "scan", gv (markPlain x.scan))] ++ [(us "given", gv (markPlain x.given)), (us "taken", .bool x.taken)]))) ?_ fun u H' e p => q u H' (x1.trans e) p
    exact gb_record d1 (gb_cat d1 (EgBE.of_var rfl hm he) (gb_lst d1 (gbs_cons d1 (by decide +kernel) (eb_pair d1 (by walk_at "ev") (hg.im (Im.of x1))) (gbs_cons d1 (by decide +kernel) (gb_bl (by walk_at "ev")) gbs_nil)) rfl) (Nat.le_of_ble_eq_true rfl))
theorem sc_State_later : FnScope ["self", "ticks"] ["self", "ticks"] d_State_later.scope := ⟨rfl, rfl, rfl, by decide +kernel, rfl, by decide +kernel, by decide +kernel⟩
theorem ok_State_later (T : Tx w K mg) : FnOk P w K mg base CX0 3 (He.ma K (He.ga K "State") "later") (fdOf K (He.ma K (He.ga K "State") "later")) ["self", "ticks"] (spLat K) := by
  refine mkOk T.F_State_later ⟨rfl, rfl⟩ sc_State_later (fun vs H Q E h => ?_) (fun cdv A outer s H vs Q E hr h => ⟨_, (pss_one (ps_ret (pe_make T.k_State (ok_State_init T) (hr.mono (by decide)) rfl T.g_State T.B_State_init .nil pass0 (pa_cons (pe_op op_add (pe_fld (pv 0) rfl) (pv 1)) (pa_cons (pe_fld (pv 0) rfl) (pa_cons (pe_fld (pv 0) rfl) pa_nil)))))), ?_⟩)
  · (repeat (first | exact congrArg List.length h.1 | obtain ⟨_, h⟩ := h))
  · obtain ⟨a, w, n, rfl, ⟨dx, lt, st, ls, ss, h1, h2, h3, h4, h5⟩, q⟩ := h
    refine pr_retG (F := H) (eg_state (w := { w with now := w.now + n }) (ev_addN (by walk_at "ev") (by walk_at "ev")) (eg_lgs (by walk_at "ev") h2 h3) (eg_sss (by walk_at "ev") h4 h5)) (fun v H' e p => ?_) H (Ex.refl H)
    obtain ⟨t, rfl, ht⟩ := p
    exact q t H' e ht
theorem sc_State_with_login : FnScope ["self", "number", "login"] ["self", "number", "login"] d_State_with_login.scope := ⟨rfl, rfl, rfl, by decide +kernel, rfl, by decide +kernel, by decide +kernel⟩
theorem ok_State_with_login (T : Tx w K mg) : FnOk P w K mg base CX0 3 (He.ma K (He.ga K "State") "with_login") (fdOf K (He.ma K (He.ga K "State") "with_login")) ["self", "number", "login"] (spWL K) := by
  refine mkOk T.F_State_with_login ⟨rfl, rfl⟩ sc_State_with_login (fun vs H Q E h => ?_) (fun cdv A outer s H vs Q E hr h => ⟨_, (pss_one (ps_ret (pe_make T.k_State (ok_State_init T) (hr.mono (by decide)) rfl T.g_State T.B_State_init .nil pass0 (pa_cons (pe_fld (pv 0) rfl) (pa_cons (pe_op op_catA (pe_op op_catA (pe_slice sl_tupA (pe_fld (pv 0) rfl) po_none (po_some (pv 1))) (pe_tup (pa_cons (pv 2) pa_nil))) (pe_slice sl_tupA (pe_fld (pv 0) rfl) (po_some (pe_op op_add (pv 1) pe_int)) po_none)) (pa_cons (pe_fld (pv 0) rfl) pa_nil)))))), ?_⟩)
  · (repeat (first | exact congrArg List.length h.1 | obtain ⟨_, h⟩ := h))
  · obtain ⟨a, w, i, v, x, rfl, ⟨dx, lt, st, ls, ss, h1, h2, h3, h4, h5⟩, hi, hn, hx, q⟩ := h
    have ll := h3.len
    refine pr_retG (F := H) (eg_state (w := { w with logins := w.logins.set i x }) (by walk_at "ev") (egt_lgs (ls := ls.set i v) ?_ (h3.set hx)) (eg_sss (by walk_at "ev") h4 h5)) (fun v H' e p => ?_) H (Ex.refl H)
    · rw [← cut_set ls i v (by omega)]
      refine et_cat (et_cat (et_sl (et_fld (v := .non) (by walk_at "ev") h2) eo_none (eo_some (by walk_at "ev"))) (et_tup (ea_cons (by walk_at "ev") ea_nil) (by show 1 ≤ 100000; decide)) ?_) (et_sl (et_fld (v := .non) (by walk_at "ev") h2) (eo_some (ev_int (g := fun i j => .int (i + j)) (by walk_at "ev") ev_c)) eo_none) ?_
      · have := cutV_length ls none (some (i : Int))
        rw [List.length_singleton]; omega
      · have := cutV_length ls none (some (i : Int))
        have := cutV_length ls (some ((i : Int) + 1)) none
        rw [List.length_append, List.length_singleton]; omega
    · obtain ⟨t, rfl, ht⟩ := p
      exact q t H' e ht
theorem sc_State_with_session : FnScope ["self", "browser", "session", "sessions"] ["self", "browser", "session"] d_State_with_session.scope := ⟨rfl, rfl, rfl, by decide +kernel, rfl, by decide +kernel, by decide +kernel⟩
theorem ok_State_with_session (T : Tx w K mg) : FnOk P w K mg base CX0 3 (He.ma K (He.ga K "State") "with_session") (fdOf K (He.ma K (He.ga K "State") "with_session")) ["self", "browser", "session"] (spWS K) := by
  refine mkOk T.F_State_with_session ⟨rfl, rfl⟩ sc_State_with_session (fun vs H Q E h => ?_) (fun cdv A outer s H vs Q E hr h => ⟨_, (pss_cons (ps_set (i := 3) sc_State_with_session.nd rfl (Or.inl rfl) (pe_op op_catA (pe_op op_catA (pe_slice sl_tupA (pe_fld (pv 0) rfl) po_none (po_some (pv 1))) (pe_tup (pa_cons (pv 2) pa_nil))) (pe_slice sl_tupA (pe_fld (pv 0) rfl) (po_some (pe_op op_add (pv 1) pe_int)) po_none))) (pss_one (ps_ret (pe_make T.k_State (ok_State_init T) (hr.mono (by decide)) rfl T.g_State T.B_State_init .nil pass0 (pa_cons (pe_fld (pv 0) rfl) (pa_cons (pe_fld (pv 0) rfl) (pa_cons (pv 3) pa_nil))))))), ?_⟩)
  · (repeat (first | exact congrArg List.length h.1 | obtain ⟨_, h⟩ := h))
  · obtain ⟨a, w, i, v, x, rfl, ⟨dx, lt, st, ls, ss, h1, h2, h3, h4, h5⟩, hi, hn, hx, q⟩ := h
    have ll := h5.len
    refine pr_asgG (F := H) (P := fun u G => ∃ p, u = .ref p ∧ G p = some (.tup (ss.set i v))) ?_ (fun u H1 x1 p => ?_) H (Ex.refl H)
    · rw [← cut_set ss i v (by omega)]
      refine et_cat (et_cat (et_sl (et_fld (v := .non) (by walk_at "ev") h4) eo_none (eo_some (by walk_at "ev"))) (et_tup (ea_cons (by walk_at "ev") ea_nil) (by show 1 ≤ 100000; decide)) ?_) (et_sl (et_fld (v := .non) (by walk_at "ev") h4) (eo_some (ev_int (g := fun i j => .int (i + j)) (by walk_at "ev") ev_c)) eo_none) ?_
      · have := cutV_length ss none (some (i : Int))
        rw [List.length_singleton]; omega
      · have := cutV_length ss none (some (i : Int))
        have := cutV_length ss (some ((i : Int) + 1)) none
        rw [List.length_append, List.length_singleton]; omega
    · obtain ⟨p, rfl, hp⟩ := p
      have h1' := x1 _ _ h1
      refine pr_retG (eg_state (w := { w with sessions := w.sessions.set i x }) (by walk_at "ev") (eg_lgs (by walk_at "ev") (x1 _ _ h2) (h3.im (Im.of x1))) (eg_sss (ev_var rfl) hp ((h5.set hx).im (Im.of x1)))) fun v H' e p => ?_
      obtain ⟨t, rfl, ht⟩ := p
      exact q t H' (x1.trans e) ht
theorem sc_Server_state : FnScope ["self"] ["self"] d_Server_state.scope := ⟨rfl, rfl, rfl, by decide +kernel, rfl, by decide +kernel, by decide +kernel⟩
theorem ok_Server_state (T : Tx w K mg) : FnOk P w K mg base CX0 1 (He.ma K (He.ga K "Server") "state") (fdOf K (He.ma K (He.ga K "Server") "state")) ["self"] (spSt K) := by
  refine mkOk T.F_Server_state ⟨rfl, rfl⟩ sc_Server_state (fun vs H Q E h => ?_) (fun cdv A outer s H vs Q E hr h => ⟨_, (pss_one (ps_ret (pe_ix ix_list (pe_fld (pv 0) rfl) (pe_un un_neg pe_int) (fun _ _ => rfl)))), ?_⟩)
  · (repeat (first | exact congrArg List.length h.1 | obtain ⟨_, h⟩ := h))
  · obtain ⟨a, dx, l, t, ra, us, rfl, h1, h2, q⟩ := h
    exact pr_ret (F := H) (ev_op (ev_fld (ev_var rfl) h1 T.c_Server T.n_Server_states rfl) (ev_un ev_c ru_neg) (rv_ixL (sq_of h2) (atI_last us (.ref t)))) q H (Ex.refl H)
theorem sc_Server_known_from : FnScope ["self", "browser", "time"] ["self", "browser", "time"] d_Server_known_from.scope := ⟨rfl, rfl, rfl, by decide +kernel, rfl, by decide +kernel, by decide +kernel⟩
theorem ok_Server_known_from (T : Tx w K mg) : FnOk P w K mg base CX0 1 (He.ma K (He.ga K "Server") "known_from") (fdOf K (He.ma K (He.ga K "Server") "known_from")) ["self", "browser", "time"] (spKF K) := by
  refine mkOk T.F_Server_known_from ⟨rfl, rfl⟩ sc_Server_known_from (fun vs H Q E h => ?_) (fun cdv A outer s H vs Q E hr h => ⟨_, (pss_one (ps_ret (pe_ifExp (pt_cmpR op_eq (pv 1) (pe_fld (pe_fld (pv 0) rfl) rfl) (nomark _)) (pv 2) (pe_op op_add (pv 2) (pe_fld (pe_fld (pv 0) rfl) rfl))))), ?_⟩)
  · (repeat (first | exact congrArg List.length h.1 | obtain ⟨_, h⟩ := h))
  · obtain ⟨a, w, b, t, rfl, ⟨dx, ra, l, us, tt, h1, ⟨rk, dr, h2⟩, h3, h4⟩, q⟩ := h
    refine pr_ret (F := H) (v := .int (knownFrom w.rules b t : Nat)) (ev_if (b := decide (b = w.rules.owners)) (et_is (et_B (ev_sc (x := .int b) (ev_var rfl) (y := .int w.rules.owners) (by walk_at "ev") rfl)) (decide_eq_decide.mpr ⟨fun z => by injection z with z; omega, fun z => by rw [z]⟩)) (fun hb => ?_) fun hb => ?_) q H (Ex.refl H)
    · unfold knownFrom
      rw [if_pos (of_decide_eq_true hb)]
      exact ev_var rfl
    · unfold knownFrom
      rw [if_neg (of_decide_eq_false hb)]
      exact ev_addN (by walk_at "ev") (by walk_at "ev")
end
end Sl
/-! ## SlSrv3 -/
namespace Sl
open PySem PySem.Spec PyProof.Rows L2 Evl
open R7239g.Spec (Err natOrNull markPlain loginPlain sessionPlain deskPlain newDesk loginAt sessionAt isThief currentOf knownFrom pageFrom sees seesCode seesNumber signedAs numberIn rangeText rangeErrorWith loginArg placeArg sessionLives noLogin naturalOf)
structure Wd (w : SD) : Prop where
  ss : w.sessions.length = w.rules.owners + 1
  se : ∀ (b : Nat) (s : SSs), w.sessions[b]? = some (some s) → s.login < w.logins.length ∧ ∃ m, (loginAt w s.login).given = some m
  ll : w.logins.length ≤ 1000
  sg : ∀ (n : Nat) (x : SLg), w.logins[n]? = some x → x.scan = none → x.given = none
theorem login_at {w : SD} {n : Nat} (h : n < w.logins.length) : w.logins[n]? = some (loginAt w n) := by
  unfold loginAt
  rw [List.getD_eq_getElem?_getD, List.getElem?_eq_getElem h]
  rfl
/-- the indices that pass, over enumerate of a tuple -/
theorem el_lcE {K : PySem.W.Frag} {σ : L2.St} {F : Hp} {ta : TA} {a : Addr} {xs : List V} {j1 j2 : Nat} {vs : List Nat} {t : TT} (f : Nat → Bool) (h : EvA ta σ F [.ref a]) (hx : F a = some (.tup xs)) (hz : xs.length ≤ 40000) (hw : ∀ x y, wipe (((wipe σ vs).set j1 (some x)).set j2 (some y)) vs = wipe σ vs)
    (ht : ∀ (i : Nat) (x : V) H, xs[i]? = some x → Ex F H → EvT t (((wipe σ vs).set j1 (some (.int (i : Int)))).set j2 (some x)) H (f i)) (hv : ∀ (i : Nat) (x : V), (((wipe σ vs).set j1 (some (.int (i : Int)))).set j2 (some x))[j1]? = some (some (.int (i : Int)))) :
    EvL (tLc (iEnumT K ta) (gTup K 2 (gCons (gName j1) (gCons (gName j2) gNil))) t (tVar j1) vs) σ F (given xs.length f fun i => .int (i : Int)) := fun H0 e0 Q q => h H0 e0 _ fun H1 e1 => ⟨a, xs, rfl, st_of (e1 _ _ (e0 _ _ hx)), fun Dl hD => by
  have hx1 := e1 _ _ (e0 _ _ hx)
  refine ⟨fun i m H => m = xs.length - i ∧ i ≤ xs.length ∧ Cw H1 f (fun i => .int (i : Int)) Dl i H, ⟨xs.length, rfl, Nat.zero_le _, hD, Ex.new hD, upd_same⟩, ?_⟩
  rintro i m H ⟨rfl, hi, p⟩
  have hxH : SqT K H a xs := st_of (p.2.1 _ _ hx1)
  rcases Nat.lt_or_ge i xs.length with hl | hl
  · refine .inr ⟨⟨xs, _, hxH, List.getElem?_eq_getElem hl⟩, fun H' => Cw H1 f (fun i => .int (i : Int)) Dl (i + 1) H', fun H' c => ⟨xs.length - (i + 1), by omega, rfl, hl, c⟩, fun v H' hy => ?_⟩
    obtain ⟨T, x, rfl, hT, rfl, hy⟩ := hy
    have hxi := hy _ hxH
    refine ⟨T, [.int (i : Nat), x], rfl, st_of upd_same, rfl, _, _, rfl, _, _, rfl, rfl, hw _ _, ?_⟩
    have p' : Cw H1 f (fun i => .int (i : Int)) Dl i (upd H T (.tup [.int (i : Nat), x])) := ⟨p.1, p.2.1.trans (Ex.new hT), (Ex.new hT) _ _ p.2.2⟩
    exact cw_turn p' (by omega) (ht i x H1 hxi (e0.trans e1)) fun _ => ev_var (hv i x)
  · have : i = xs.length := Nat.le_antisymm hi hl
    subst this
    exact .inl ⟨⟨xs, hxH, Nat.le_refl _⟩, q Dl H (fresh_back e1 p.1) (e1.trans p.2.1) p.2.2⟩⟩
def spSI (K : PySem.W.Frag) : Sp := fun vs H Q _ => ∃ (a : Addr) (w : SD) (b : Nat), vs = [.ref a, .int b] ∧ Sv K H a w ∧ Wd w ∧ b ≤ w.rules.owners ∧ ∀ H', Ex H H' → Q (optV (signedAs w b)) H'
def spNH (K : PySem.W.Frag) : Sp := fun vs H Q E => ∃ (a : Addr) (w : SD) (v : V) (x : Val) (s : String), vs = [.ref a, v, .str (Str.ofString s)] ∧ Sv K H a w ∧ ValAt K H v x ∧ (s = "browser" ∨ s = "phone") ∧
  (∀ n, placeArg s w (Rust.taken x) = .ok n → v = .int n → ∀ H', Ex H H' → Q v H') ∧ ∀ e, placeArg s w (Rust.taken x) = .error e → Out K H E e
def spNL (K : PySem.W.Frag) : Sp := fun vs H Q E => ∃ (a : Addr) (w : SD) (v : V) (x : Val), vs = [.ref a, v] ∧ Sv K H a w ∧ ValAt K H v x ∧ w.logins.length ≤ 1000 ∧
  (∀ n, loginArg w (Rust.taken x) = .ok n → v = .int n → ∀ H', Ex H H' → Q v H') ∧ ∀ e, loginArg w (Rust.taken x) = .error e → Out K H E e
def spAdd (K : PySem.W.Frag) : Sp := fun vs H Q E => ∃ (a l t : Addr) (r : SR) (ds : List SD) (w : SD), vs = [.ref a, .ref t] ∧ SrvAt K H a l r ds ∧ StateAt K H t w ∧ ds.length ≤ 1000 ∧
  (ds.length ≤ 300 → ∀ H', Bt l H H' → SrvAt K H' a l r (w :: ds) → Q .non H') ∧ (300 < ds.length → Out K H E (rangeErrorWith "there are 300 steps already"))
def spUndo (K : PySem.W.Frag) : Sp := fun vs H Q E => ∃ (a l : Addr) (r : SR) (d : SD) (ds : List SD), vs = [.ref a] ∧ SrvAt K H a l r (d :: ds) ∧ (ds ≠ [] → ∀ H', Bt l H H' → SrvAt K H' a l r ds → Q .non H') ∧ (ds = [] → Out K H E (rangeErrorWith "nothing to undo"))
section
variable {K : PySem.W.Frag} {σ : L2.St} {F : Hp} {te tf tg to : TE} {E : XK} {a : Addr} {w : SD}
theorem ev_ic {b n : Nat} (hs : Sv K F a w) (hl : w.logins.length ≤ 1000) (ho : Ev to σ F (.ref a)) (h : Ev te σ F (.int b)) (h2 : Ev tf σ F (.int n)) : Ev (tMeth (He.ga K "Server") "is_current" (spIC K) [] E to (tCons te (tCons tf tNil))) σ F (.bl (currentOf w b == some n)) := by
  have hs' := hs
  obtain ⟨dx, ra, l, us, t', h1, _⟩ := hs
  exact ev_meth ho h1 rfl (ea_cons h (ea_cons h2 ea_nil)) fun H1 e Q E q => ⟨a, w, b, n, rfl, hs'.mono e, hl, fun H' e' => q _ H' e' rfl⟩
theorem ev_sb {p n t : Nat} (hs : Sv K F a w) (hn : n < w.logins.length) (hl : w.logins.length ≤ 1000) (ho : Ev to σ F (.ref a)) (h : Ev te σ F (.int p)) (h2 : Ev tf σ F (.int n)) (h3 : Ev tg σ F (.int t)) : Ev (tMeth (He.ga K "Server") "is_seen_by" (spSB K) [] E to (tCons te (tCons tf (tCons tg tNil)))) σ F (.bl (sees w p n t)) := by
  have hs' := hs
  obtain ⟨dx, ra, l, us, t', h1, _⟩ := hs
  exact ev_meth ho h1 rfl (ea_cons h (ea_cons h2 (ea_cons h3 ea_nil))) fun H1 e Q E q => ⟨a, w, p, n, t, rfl, hs'.mono e, hn, hl, fun H' e' => q _ H' e' rfl⟩
theorem eg_lst1 {P : V → Hp → Prop} (m : Mo P) (h : Eg te σ F P) : Eg (tLst (tCons te tNil)) σ F fun v H => ∃ l u, v = .ref l ∧ F l = none ∧ H l = some (.lst [u]) ∧ P u H := fun H1 e Q q => h H1 e _ fun u H2 e2 p => ⟨sz_of (by show 1 ≤ 100000; decide), fun l hl => q (.ref l) _ (e2.trans (Ex.new hl)) ⟨l, u, rfl, fresh_back (e.trans e2) hl, upd_same, m _ _ _ (Ex.new hl) p⟩⟩
theorem sesss_rep {H : Hp} : ∀ n : Nat, SesssAt H (List.replicate n [V.non]).flatten (List.replicate n none)
  | 0 => rfl
  | n + 1 => by
    rw [List.replicate_succ, List.replicate_succ, List.flatten_cons]
    exact ⟨.non, _, rfl, rfl, sesss_rep n⟩
end
def okWs : Bool := ["browser", "phone"].all fun s => [1, 2, 3].all fun n => okW s 0 n ""
theorem okWs_yes : okWs = true := by decide +kernel
theorem okW_at {s : String} {n : Nat} (hs : s = "browser" ∨ s = "phone") (h1 : 1 ≤ n) (h2 : n ≤ 3) : okW s 0 n "" = true := by
  have z := List.all_eq_true.mp okWs_yes s (by rcases hs with rfl | rfl <;> simp)
  exact List.all_eq_true.mp z n (by
    have : n = 1 ∨ n = 2 ∨ n = 3 := by omega
    rcases this with rfl | rfl | rfl <;> simp)
local macro_rules
  | `(tactic| walk_at "ev") => `(tactic| first
    | exact ev_c
    | exact ev_var rfl
    | ((with_reducible refine' ev_fld ?k1 ?k2 ?k3 ?k4 ?k5); (case k1 => walk_at "ev"); (case k2 => assumption); (case k3 => exact Tx.cl (by assumption) rfl); (case k4 => exact Tx.na (by assumption) rfl); (case k5 => rfl))
    | (refine' ev_st ?k1 ?k2 ?k3; (case k1 => walk_at "ev"); (case k2 => assumption); (case k3 => assumption))
    | ((with_reducible refine' ev_ixT ?k1 ?k2 ?k3 ?k4); (case k1 => walk_at "ev"); (case k2 => walk_at "ev"); (case k3 => assumption); (case k4 => first | assumption | rfl))
    | (refine' ev_isN ?k1; (case k1 => walk_at "ev"))
    | (refine' ev_notN ?k1; (case k1 => walk_at "ev"))
    | (refine' ev_int ?k1 ?k2; (case k1 => walk_at "ev"); (case k2 => walk_at "ev"))
    | ((with_reducible refine' ev_sc ?k1 ?k2 ?k3); (case k1 => walk_at "ev"); (case k2 => walk_at "ev"); (case k3 => rfl))
    | ((with_reducible refine' ev_scn ?k1 ?k2 ?k3); (case k1 => walk_at "ev"); (case k2 => walk_at "ev"); (case k3 => rfl))
    | ((with_reducible refine' ev_notV ?k1); (case k1 => walk_at "ev"))
    | ((with_reducible refine' ev_andV ?k1 ?k2); (case k1 => walk_at "ev"); (case k2 => intro _; walk_at "ev"))
    | ((with_reducible refine' ev_orV ?k1 ?k2); (case k1 => walk_at "ev"); (case k2 => intro _; walk_at "ev"))
    | ((with_reducible refine' et_test ?k1); (case k1 => walk_at "ev"))
    | ((with_reducible refine' et_B ?k1); (case k1 => walk_at "ev"))
    | ((with_reducible refine' et_and ?k1 ?k2); (case k1 => walk_at "ev"); (case k2 => intro _; walk_at "ev"))
    | ((with_reducible refine' et_or ?k1 ?k2); (case k1 => walk_at "ev"); (case k2 => intro _; walk_at "ev"))
    | ((with_reducible refine' et_not ?k1); (case k1 => walk_at "ev"))
    | exact ea_nil
    | ((with_reducible refine' ea_cons ?k1 ?k2); (case k1 => walk_at "ev"); (case k2 => walk_at "ev")))
section
variable {P : Program} {w : World} {K : PySem.W.Frag} {mg : Str → Option Value} {base : Heap}
theorem sc_Server_init : FnScope ["self", "rules"] ["self", "rules"] d_Server_init.scope := ⟨rfl, rfl, rfl, by decide +kernel, rfl, by decide +kernel, by decide +kernel⟩
theorem ok_Server_init (T : Tx w K mg) : FnOk P w K mg base CX0 3 (He.ma K (He.ga K "Server") "__init__") (fdOf K (He.ma K (He.ga K "Server") "__init__")) ["self", "rules"] (spSrvI K) := by
  refine mkOk T.F_Server_init ⟨rfl, rfl⟩ sc_Server_init (fun vs H Q E h => ?_) (fun cdv A outer s H vs Q E hr h => ⟨_, (pss_cons (ps_fld (pv 0) (pv 1) rfl) (pss_one (ps_fld (pv 0) (pe_lst (pa_cons (pe_make T.k_State (ok_State_init T) (hr.mono (by decide)) rfl T.g_State T.B_State_init .nil pass0 (pa_cons pe_int (pa_cons (pe_tup pa_nil) (pa_cons (pe_op op_repT (pe_tup (pa_cons pe_non pa_nil)) (pe_op op_add (pe_fld (pv 1) rfl) pe_int)) pa_nil)))) pa_nil)) rfl))), ?_⟩)
  · (repeat (first | exact congrArg List.length h.1 | obtain ⟨_, h⟩ := h))
  · obtain ⟨p, dx, ra, r, rfl, hp, hr, hne, q⟩ := h
    refine ⟨_, rfl, _, rfl, p, _, dx, [], rfl, hp, T.c_Server, T.n_Server_rules, (by show 0 < 1000; decide), ?_⟩
    dsimp only
    generalize hH1 : upd H p (.ins (He.ga K "Server") dx (putF "rules" (.ref ra) [])) = H1
    have hp1 : H1 p = some (.ins (He.ga K "Server") dx [("rules", .ref ra)]) := by rw [← hH1]; exact upd_same
    have k1 : ∀ b o, H b = some o → b ≠ p → H1 b = some o := fun b o e n => by rw [← hH1, upd_ne n]; exact e
    obtain ⟨rk, dr, hra⟩ := hr
    have hra1 := k1 _ _ hra hne
    have hst : ∀ E0 : XK, Eg (tMake (He.ga K "State") (spFields (He.ga K "State") 3 soF) [] E0 (tCons (tC (.int 0)) (tCons (tTup tNil) (tCons (tOp (rRepT K) (tTup (tCons (tC .non) tNil)) (tOp (rI0 fun i j => .int (i + j)) (tFld K (tVar 1) "owners") (tC (.int 1)))) tNil)))) [some (.ref p), some (.ref ra)] H1 fun v H => ∃ t, v = .ref t ∧ StateAt K H t (newDesk r) := by
      intro E0
      refine eg_state (w := newDesk r) ev_c (egt_lgs (ls := []) (et_tup ea_nil (by show 0 ≤ 100000; decide)) rfl) (egt_sss (ss := (List.replicate (r.owners + 1) [V.non]).flatten) ?_ (sesss_rep _))
      intro H2 e2 Q2 q2
      refine ⟨sz_of (by show 1 ≤ 100000; decide), fun b hb => (ev_addN (a := r.owners) (b := 1) (by walk_at "ev") ev_c) _ (e2.trans (Ex.new hb)) _ fun H3 e3 => ⟨b, ((r.owners + 1 : Nat) : Int), [.non], rfl, rfl, st_of (e3 _ _ upd_same), by simp, ?_, ?_, by decide, fun z hz => ?_⟩⟩
      · have := rk.o1; omega
      · have := rk.o2; omega
      · exact q2 (.ref z) _ (((Ex.new hb).trans e3).trans (Ex.new hz)) ⟨z, rfl, upd_same⟩
    unfold sFld
    refine eg_lst1 (fun v H H' e z => by obtain ⟨t, z1, z2⟩ := z; exact ⟨t, z1, z2.im (Im.of e)⟩) (hst _) H1 (Ex.refl H1) _ fun v H2 x2 hv => ?_
    obtain ⟨l, u, rfl, hl, hl2, t, rfl, ht⟩ := hv
    have pl : l ≠ p := fun z => by rw [z, hp1] at hl; cases hl
    refine ⟨_, rfl, p, _, dx, _, rfl, x2 _ _ hp1, T.c_Server, T.n_Server_states, (by show 1 < 1000; decide), ?_⟩
    refine q l t _ upd_same ?_ (by rw [upd_ne pl]; exact hl2) ?_ fun b o hb hbp => ?_
    · rw [← hH1, upd_ne pl] at hl
      exact hl
    · refine ht.im fun z o e n => ?_
      by_cases y : z = p
      · rw [y, x2 _ _ hp1] at e
        injection e with e
        subst e
        have n2 : List.lookup ("rules" : Str) [(("rules" : Str), V.ref ra)] = none := n
        rw [show List.lookup ("rules" : Str) [(("rules" : Str), V.ref ra)] = some (V.ref ra) from rfl] at n2
        cases n2
      · rw [upd_ne y]
        exact e
    · rw [upd_ne hbp]
      exact x2 _ _ (k1 _ _ hb hbp)
theorem sc_Server_is_current : FnScope ["self", "browser", "number", "some", "at", "login"] ["self", "browser", "number"] d_Server_is_current.scope := ⟨rfl, rfl, rfl, by decide +kernel, rfl, by decide +kernel, by decide +kernel⟩
theorem ok_Server_is_current (T : Tx w K mg) : FnOk P w K mg base CX0 2 (He.ma K (He.ga K "Server") "is_current") (fdOf K (He.ma K (He.ga K "Server") "is_current")) ["self", "browser", "number"] (spIC K) := by
  refine mkOk T.F_Server_is_current ⟨rfl, rfl⟩ sc_Server_is_current (fun vs H Q E h => ?_) (fun cdv A outer s H vs Q E hr h => ⟨_, (pss_cons (ps_setLc (i := 3) (own := [("at", 4), ("login", 5)]) (g := gTup K 2 (gCons (gName 4) (gCons (gName 5) (gNil)))) (tt := tB (tOp rEq (tFld K (tVar 5) "browser") (tVar 1))) (by rfl) sc_Server_is_current.nd rfl rfl (sw_true rfl rfl rfl (by decide +kernel)) (pi_enumT (by rfl) T.f_enumerate (pa_cons (pe_fld (pe_meth0 (pv 0) T.c_Server T.m_Server_state (ok_Server_state T) (hr.mono (by decide)) T.B_Server_state .nil pass0) rfl) pa_nil)) (blkOk_by (own := [("at", 4), ("login", 5)]) (N := ["self", "browser", "number", "some", "at", "login"]) (sc := d_Server_is_current.scope) (by decide +kernel)) (fun _ _ _ _ _ => pg_tup rfl (pgs_cons (pg_name (i := 4) sc_Server_is_current.nd rfl (Or.inl rfl)) (pgs_cons (pg_name (i := 5) sc_Server_is_current.nd rfl (Or.inl rfl)) pgs_nil))) (fun _ _ _ _ _ => pts_one (pt_cmpR op_eq (pe_fld (pv 5) rfl) (pv 1) (nomark _))) (fun _ _ _ _ _ => (pv 4))) (pss_one (ps_ret (pe_and (pe_cmpR op_gt (pe_callB call_len (by rfl) T.f_len (by decide +kernel) (pa_cons (pv 3) pa_nil)) pe_int (nomark _)) (pe_one (pe_cmpR op_eq (pe_ix ix_list (pv 3) (pe_un un_neg pe_int) (fun _ _ => rfl)) (pv 2) (nomark _))))))), ?_⟩)
  · (repeat (first | exact congrArg List.length h.1 | obtain ⟨_, h⟩ := h))
  · obtain ⟨a, d, b, n, rfl, ⟨dx, ra, l, us, t, h1, ⟨rk, dr, h2⟩, h3, ⟨ds, lt, st, ls, ss, g1, g2, g3, g4, g5⟩⟩, hl, q⟩ := h
    have len := g3.len
    have el := el_lcE (K := K) (σ := [some (.ref a), some (.int b), some (.int n), none, none, none]) (F := H) (ta := tCons (tFld K (tMeth (He.ga K "Server") "state" (spSt K) [] E (tVar 0) tNil) "logins") tNil) (j1 := 4) (j2 := 5) (vs := [4, 5]) (t := tB (tOp rEq (tFld K (tVar 5) "browser") (tVar 1))) (fun i => (loginAt d i).browser == b)
      (by walk_at "ev") g2 (by omega) (fun _ _ => rfl) (fun i x H' hi xH => ?_) (fun _ _ => rfl)
    · refine q_asgL (H := H) el fun p H1 np x1 hp => ?_
      have ec : currentOf d b = ((List.range ls.length).filter fun i => (loginAt d i).browser == b).getLast? := by unfold currentOf; rw [len]
      unfold given at hp
      rcases List.eq_nil_or_concat ((List.range ls.length).filter fun i => (loginAt d i).browser == b) with h0 | ⟨L, x, h0⟩
      · rw [h0] at hp ec
        have e1 : (currentOf d b == some n) = false := by rw [ec]; rfl
        rw [e1] at q
        exact s_ret (ev_andV (a := false) (b := false) (ev_is (ev_int (g := fun i j => .bl (decide (j < i))) (i := (([] : List V).length : Int)) (ev_len2 (ev_var rfl) (sq_of hp)) ev_c) rfl) fun h => Bool.noConfusion h) fun H2 x2 => q H2 (x1.trans x2)
      · rw [List.concat_eq_append] at h0
        rw [h0] at hp ec
        rw [List.map_append] at hp
        have e1 : (currentOf d b == some n) = decide (x = n) := by
          rw [ec, List.getLast?_append]
          show ((some x : Option Nat) == some n) = _
          rw [Bool.eq_iff_iff]
          simp
        rw [e1] at q
        refine s_ret (ev_is (ev_andV (a := true) (b := decide (V.int (x : Int) = V.int (n : Int))) (ev_is (ev_int (g := fun i j => .bl (decide (j < i))) (ev_len2 (ev_var rfl) (sq_of hp)) ev_c) ?_) fun _ => ev_sc (ev_op (ev_var rfl) (ev_un ev_c ru_neg) (rv_ixL (sq_of hp) (atI_last _ (.int (x : Int))))) (ev_var rfl) rfl) ?_) fun H2 x2 => q H2 (x1.trans x2)
        · congr 1
          rw [List.length_append]
          exact decide_eq_true (by show (0 : Int) < ((_ + 1 : Nat) : Int); omega)
        · rw [Bool.true_and]
          congr 1
          exact decide_eq_decide.mpr ⟨fun z => by injection z with z; omega, fun z => by rw [z]⟩
    · have hi2 : i < d.logins.length := by rw [← len]; exact (List.getElem?_eq_some_iff.mp hi).1
      obtain ⟨v, hv, ⟨a', dx', s', g', rfl, k1, k2, k3⟩⟩ := g3.get (login_at hi2)
      rw [hi] at hv
      injection hv with hv
      subst hv
      have k1' := xH _ _ k1
      refine et_is (et_B (ev_sc (x := .int (loginAt d i).browser) (by walk_at "ev") (ev_var (v := .int b) rfl) rfl)) ?_
      rw [Bool.eq_iff_iff]
      simp
      omega
end
end Sl
/-! ## SlSrv4 -/
namespace Sl
open PySem PySem.Spec PyProof.Rows L2 Evl
open R7239g.Spec (Err natOrNull markPlain loginPlain sessionPlain deskPlain newDesk loginAt sessionAt isThief currentOf knownFrom pageFrom sees seesCode seesNumber signedAs numberIn rangeText rangeErrorWith loginArg placeArg sessionLives noLogin naturalOf)
theorem decN {a b : Nat} : decide (V.int (a : Int) = V.int (b : Int)) = decide (a = b) := decide_eq_decide.mpr ⟨fun z => by injection z with z; omega, fun z => by rw [z]⟩
theorem sess_at {w : SD} {n : Nat} (h : n < w.sessions.length) : w.sessions[n]? = some (sessionAt w n) := by
  unfold sessionAt
  rw [List.getD_eq_getElem?_getD, List.getElem?_eq_getElem h]
  rfl
theorem logArg_yes {w : SD} {x : Val} (hl : w.logins.length ≤ 1000) (h : withinV x 0 ((w.logins.length : Int) - 1) = true) : loginArg w (Rust.taken x) = .ok (natV x) ∧ x = .int (natV x : Int) ∧ natV x < w.logins.length := by
  cases x with
  | int i =>
    have h2 : (decide ((0 : Int) ≤ i) && decide (i ≤ (w.logins.length : Int) - 1)) = true := h
    simp only [Bool.and_eq_true, decide_eq_true_eq] at h2
    have e1 : naturalOf (Rust.taken (.int i)) = some i.toNat := by
      show naturalOf (.num (RShim.F64.ofInt i)) = _
      rw [natOf_int, if_pos (by omega)]
    refine ⟨?_, ?_, ?_⟩
    · unfold loginArg; rw [e1]; show (if i.toNat < w.logins.length then _ else _) = _; rw [if_pos (by omega)]; rfl
    · show RWire.Value.int i = .int ((i.toNat : Nat) : Int); congr 1; omega
    · show i.toNat < _; omega
  | _ => cases h
theorem logArg_no {w : SD} {x : Val} (h : withinV x 0 ((w.logins.length : Int) - 1) = false) : loginArg w (Rust.taken x) = .error (rangeErrorWith "unknown login") := by
  cases hx : naturalOf (Rust.taken x) with
  | none => unfold loginArg; rw [hx]
  | some n =>
    cases x with
    | int i =>
      have e1 : (if 0 ≤ i ∧ i ≤ 1000000 then some i.toNat else none) = some n := hx
      have h2 : (decide ((0 : Int) ≤ i) && decide (i ≤ (w.logins.length : Int) - 1)) = false := h
      unfold loginArg; rw [hx]
      show (if n < w.logins.length then _ else _) = _
      rw [if_neg]
      intro hc
      split at e1
      · injection e1 with e1
        have h3 : ¬ ((0 : Int) ≤ i ∧ i ≤ (w.logins.length : Int) - 1) := by simpa using h2
        omega
      · cases e1
    | _ => exact absurd (natOf_val rfl) (by rw [hx]; simp)
local macro_rules
  | `(tactic| walk_at "ev") => `(tactic| first
    | exact ev_c
    | exact ev_var rfl
    | ((with_reducible refine' ev_fld ?k1 ?k2 ?k3 ?k4 ?k5); (case k1 => walk_at "ev"); (case k2 => assumption); (case k3 => exact Tx.cl (by assumption) rfl); (case k4 => exact Tx.na (by assumption) rfl); (case k5 => rfl))
    | (refine' ev_st ?k1 ?k2 ?k3; (case k1 => walk_at "ev"); (case k2 => assumption); (case k3 => assumption))
    | ((with_reducible refine' ev_ixT ?k1 ?k2 ?k3 ?k4); (case k1 => walk_at "ev"); (case k2 => walk_at "ev"); (case k3 => assumption); (case k4 => first | assumption | rfl))
    | (refine' ev_isN ?k1; (case k1 => walk_at "ev"))
    | (refine' ev_notN ?k1; (case k1 => walk_at "ev"))
    | (refine' ev_int ?k1 ?k2; (case k1 => walk_at "ev"); (case k2 => walk_at "ev"))
    | ((with_reducible refine' ev_sc ?k1 ?k2 ?k3); (case k1 => walk_at "ev"); (case k2 => walk_at "ev"); (case k3 => rfl))
    | ((with_reducible refine' ev_scn ?k1 ?k2 ?k3); (case k1 => walk_at "ev"); (case k2 => walk_at "ev"); (case k3 => rfl))
    | ((with_reducible refine' ev_notV ?k1); (case k1 => walk_at "ev"))
    | ((with_reducible refine' ev_andV ?k1 ?k2); (case k1 => walk_at "ev"); (case k2 => intro _; walk_at "ev"))
    | ((with_reducible refine' ev_orV ?k1 ?k2); (case k1 => walk_at "ev"); (case k2 => intro _; walk_at "ev"))
    | ((with_reducible refine' et_test ?k1); (case k1 => walk_at "ev"))
    | ((with_reducible refine' et_B ?k1); (case k1 => walk_at "ev"))
    | ((with_reducible refine' et_and ?k1 ?k2); (case k1 => walk_at "ev"); (case k2 => intro _; walk_at "ev"))
    | ((with_reducible refine' et_or ?k1 ?k2); (case k1 => walk_at "ev"); (case k2 => intro _; walk_at "ev"))
    | ((with_reducible refine' et_not ?k1); (case k1 => walk_at "ev"))
    | exact ea_nil
    | ((with_reducible refine' ea_cons ?k1 ?k2); (case k1 => walk_at "ev"); (case k2 => walk_at "ev")))
section
variable {P : Program} {w : World} {K : PySem.W.Frag} {mg : Str → Option Value} {base : Heap}
theorem sc_Server_is_seen_by : FnScope ["self", "hand", "number", "time", "state", "browser", "known"] ["self", "hand", "number", "time"] d_Server_is_seen_by.scope := ⟨rfl, rfl, rfl, by decide +kernel, rfl, by decide +kernel, by decide +kernel⟩
theorem ok_Server_is_seen_by (T : Tx w K mg) : FnOk P w K mg base CX0 3 (He.ma K (He.ga K "Server") "is_seen_by") (fdOf K (He.ma K (He.ga K "Server") "is_seen_by")) ["self", "hand", "number", "time"] (spSB K) := by
  refine mkOk T.F_Server_is_seen_by ⟨rfl, rfl⟩ sc_Server_is_seen_by (fun vs H Q E h => ?_) (fun cdv A outer s H vs Q E hr h => ⟨_, (pss_cons (ps_set (i := 4) sc_Server_is_seen_by.nd rfl (Or.inl rfl) (pe_meth0 (pv 0) T.c_Server T.m_Server_state (ok_Server_state T) (hr.mono (by decide)) T.B_Server_state .nil pass0)) (pss_cons (ps_set (i := 5) sc_Server_is_seen_by.nd rfl (Or.inl rfl) (pe_fld (pe_ix ix_tup (pe_fld (pv 4) rfl) (pv 2) (fun _ _ => rfl)) rfl)) (pss_cons (ps_set (i := 6) sc_Server_is_seen_by.nd rfl (Or.inl rfl) (pe_meth (pv 0) T.c_Server T.m_Server_known_from (ok_Server_known_from T) (hr.mono (by decide)) T.B_Server_known_from .nil pass0 (pa_cons (pv 5) (pa_cons (pv 3) pa_nil)))) (pss_cons (ps_if (pt_cmpR op_eq (pv 1) (pe_fld (pe_fld (pv 0) rfl) rfl) (nomark _)) (pss_one (ps_ret (pe_cmpR op_le (pv 6) (pe_fld (pv 4) rfl) (nomark _)))) pss_nil) (pss_one (ps_ret (pe_or (pe_meth (pv 0) T.c_Server T.m_Server_is_current (ok_Server_is_current T) (hr.mono (by decide)) T.B_Server_is_current .nil pass0 (pa_cons (pv 1) (pa_cons (pv 2) pa_nil))) (pe_one (pe_cmpR op_le (pe_op op_add (pv 6) (pe_fld (pe_fld (pv 0) rfl) rfl)) (pe_fld (pv 4) rfl) (nomark _)))))))))), ?_⟩)
  · (repeat (first | exact congrArg List.length h.1 | obtain ⟨_, h⟩ := h))
  · obtain ⟨a, d, p, n, tm, rfl, hs, hn, hl, q⟩ := h
    obtain ⟨dx, ra, l, us, t, h1, ⟨rk, dr, h2⟩, h3, ⟨ds, lt, st, ls, ss, g1, g2, g3, g4, g5⟩⟩ := id hs
    obtain ⟨v, hv, ⟨la, ldx, sc, gi, rfl, k1, k2, k3⟩⟩ := g3.get (login_at hn)
    have hat := atI_nat hv
    refine pr_asg (F := H) (v := .ref t) (by walk_at "ev") (pr_asg (v := .int (loginAt d n).browser) (by walk_at "ev") (pr_asg (ev_kf hs (ev_var rfl) (ev_var rfl) (ev_var rfl)) (pr_when (b := decide (p = d.rules.owners)) (et_is (et_B (ev_sc (x := .int p) (y := .int d.rules.owners) (ev_var rfl) (by walk_at "ev") rfl)) decN) (fun hb => pr_ret (v := .bl (sees d p n tm)) (ev_is (ev_int (g := fun i j => .bl (decide (i ≤ j))) (i := (knownFrom d.rules (loginAt d n).browser tm : Nat)) (j := (d.now : Int)) (ev_var rfl) (by walk_at "ev")) ?_) q) fun hb => pr_ret (v := .bl (sees d p n tm)) (ev_is (ev_orV (ev_ic hs hl (ev_var rfl) (ev_var rfl) (ev_var rfl)) fun _ => ev_int (g := fun i j => .bl (decide (i ≤ j))) (ev_addN (a := knownFrom d.rules (loginAt d n).browser tm) (b := d.rules.delay) (ev_var rfl) (by walk_at "ev")) (j := (d.now : Int)) (by walk_at "ev")) ?_) q))) H (Ex.refl H)
    · have e := of_decide_eq_true hb
      unfold sees isThief
      rw [show (p == d.rules.owners) = true by rw [e]; exact beq_self_eq_true _, if_pos rfl]
      congr 1
      exact decide_eq_decide.mpr (by omega)
    · have e := of_decide_eq_false hb
      unfold sees isThief pageFrom
      rw [show (p == d.rules.owners) = false by simpa using e, if_neg (by decide)]
      congr 2
      exact decide_eq_decide.mpr (by omega)
theorem sc_Server_sees_code : FnScope ["self", "hand", "number"] ["self", "hand", "number"] d_Server_sees_code.scope := ⟨rfl, rfl, rfl, by decide +kernel, rfl, by decide +kernel, by decide +kernel⟩
theorem ok_Server_sees_code (T : Tx w K mg) : FnOk P w K mg base CX0 4 (He.ma K (He.ga K "Server") "sees_code") (fdOf K (He.ma K (He.ga K "Server") "sees_code")) ["self", "hand", "number"] (spSC K seesCode) := by
  refine mkOk T.F_Server_sees_code ⟨rfl, rfl⟩ sc_Server_sees_code (fun vs H Q E h => ?_) (fun cdv A outer s H vs Q E hr h => ⟨_, (pss_one (ps_ret (pe_meth (pv 0) T.c_Server T.m_Server_is_seen_by (ok_Server_is_seen_by T) (hr.mono (by decide)) T.B_Server_is_seen_by .nil pass0 (pa_cons (pv 1) (pa_cons (pv 2) (pa_cons (pe_fld (pe_ix ix_tup (pe_fld (pe_meth0 (pv 0) T.c_Server T.m_Server_state (ok_Server_state T) (hr.mono (by decide)) T.B_Server_state .nil pass0) rfl) (pv 2) (fun _ _ => rfl)) rfl) pa_nil)))))), ?_⟩)
  · (repeat (first | exact congrArg List.length h.1 | obtain ⟨_, h⟩ := h))
  · obtain ⟨a, d, p, n, rfl, hs, hn, hl, q⟩ := h
    obtain ⟨dx, ra, l, us, t, h1, ⟨rk, dr, h2⟩, h3, ⟨ds, lt, st, ls, ss, g1, g2, g3, g4, g5⟩⟩ := id hs
    obtain ⟨v, hv, ⟨la, ldx, sc, gi, rfl, k1, k2, k3⟩⟩ := g3.get (login_at hn)
    have hat := atI_nat hv
    exact pr_ret (F := H) (ev_sb hs hn hl (ev_var rfl) (ev_var rfl) (ev_var rfl) (t := (loginAt d n).made) (by walk_at "ev")) q H (Ex.refl H)
theorem sc_Server_sees_number : FnScope ["self", "hand", "number", "scan"] ["self", "hand", "number"] d_Server_sees_number.scope := ⟨rfl, rfl, rfl, by decide +kernel, rfl, by decide +kernel, by decide +kernel⟩
theorem ok_Server_sees_number (T : Tx w K mg) : FnOk P w K mg base CX0 4 (He.ma K (He.ga K "Server") "sees_number") (fdOf K (He.ma K (He.ga K "Server") "sees_number")) ["self", "hand", "number"] (spSC K seesNumber) := by
  refine mkOk T.F_Server_sees_number ⟨rfl, rfl⟩ sc_Server_sees_number (fun vs H Q E h => ?_) (fun cdv A outer s H vs Q E hr h => ⟨_, (pss_cons (ps_set (i := 3) sc_Server_sees_number.nd rfl (Or.inl rfl) (pe_fld (pe_ix ix_tup (pe_fld (pe_meth0 (pv 0) T.c_Server T.m_Server_state (ok_Server_state T) (hr.mono (by decide)) T.B_Server_state .nil pass0) rfl) (pv 2) (fun _ _ => rfl)) rfl)) (pss_one (ps_ret (pe_and (pe_cmpR op_notN (pv 3) pe_non (nomark _)) (pe_one (pe_meth (pv 0) T.c_Server T.m_Server_is_seen_by (ok_Server_is_seen_by T) (hr.mono (by decide)) T.B_Server_is_seen_by .nil pass0 (pa_cons (pv 1) (pa_cons (pv 2) (pa_cons (pe_ix ix_tup (pv 3) pe_int (fun _ _ => rfl)) pa_nil))))))))), ?_⟩)
  · (repeat (first | exact congrArg List.length h.1 | obtain ⟨_, h⟩ := h))
  · obtain ⟨a, d, p, n, rfl, hs, hn, hl, q⟩ := h
    obtain ⟨dx, ra, l, us, t, h1, ⟨rk, dr, h2⟩, h3, ⟨ds, lt, st, ls, ss, g1, g2, g3, g4, g5⟩⟩ := id hs
    obtain ⟨v, hv, ⟨la, ldx, sc, gi, rfl, k1, k2, k3⟩⟩ := g3.get (login_at hn)
    have hat := atI_nat hv
    refine pr_asg (F := H) (v := sc) (by walk_at "ev") ?_ H (Ex.refl H)
    cases hsc : (loginAt d n).scan with
    | none =>
      rw [hsc] at k2
      obtain rfl : sc = .non := k2
      have e1 : seesNumber d p n = false := by unfold seesNumber; rw [hsc]
      refine pr_ret (v := .bl (seesNumber d p n)) ?_ q
      rw [e1]
      exact ev_andV (a := false) (b := false) (ev_is (ev_notN (ev_var (v := .non) rfl)) rfl) fun h => Bool.noConfusion h
    | some m =>
      rw [hsc] at k2
      obtain ⟨mt, rfl, hmt⟩ := k2
      have e1 : seesNumber d p n = sees d p n m.time := by unfold seesNumber; rw [hsc]
      refine pr_ret (v := .bl (seesNumber d p n)) ?_ q
      rw [e1]
      exact ev_is (ev_andV (a := true) (ev_is (ev_notN (ev_var (v := .ref mt) rfl)) rfl) fun _ => ev_sb hs hn hl (ev_var rfl) (ev_var rfl) (ev_var rfl) (t := m.time) (by walk_at "ev")) (by rw [Bool.true_and])
theorem sc_Server_need_hand : FnScope ["self", "value", "name"] ["self", "value", "name"] d_Server_need_hand.scope := ⟨rfl, rfl, rfl, by decide +kernel, rfl, by decide +kernel, by decide +kernel⟩
theorem ok_Server_need_hand (T : Tx w K mg) : FnOk P w K mg base (L2N.CX P w) 6 (He.ma K (He.ga K "Server") "need_hand") (fdOf K (He.ma K (He.ga K "Server") "need_hand")) ["self", "value", "name"] (spNH K) := by
  refine mkOkX T.F_Server_need_hand sc_Server_need_hand (fun vs H Q E h => ?_) (fun cdv A outer s H vs Q E hr h => ⟨_, (pss_one (ps_ret (pe_call (ok_need_within T) (hr.mono (by decide)) rfl T.g_need_within T.kp_need_within T.B_need_within .nil (L2N.passes_call (L2N.takes_of rfl rfl rfl rfl) (fun _ _ _ _ h => h)) (pa_cons (pv 1) (pa_cons (pv 2) (pa_cons pe_int (pa_cons (pe_fld (pe_fld (pv 0) rfl) rfl) pa_nil))))))), ?_⟩)
  · (repeat (first | exact congrArg List.length h.1 | obtain ⟨_, h⟩ := h))
  · obtain ⟨a, d, v, x, s, rfl, hs, hv, hb, q, qe⟩ := h
    obtain ⟨dx, ra, l, us, t, h1, ⟨rk, dr, h2⟩, h3, h4⟩ := id hs
    have ho := okW_at hb rk.o1 rk.o2
    have hx : EgV K (tVar 1) [some (.ref a), some v, some (.str (Str.ofString s))] H x := gv_varE rfl hv
    have hz : d.rules.owners ≤ 1000000 := by have := rk.o2; omega
    cases hn : numberIn s 0 d.rules.owners (Rust.taken x) with
    | ok n =>
      have e1 : v = .int n := by
        cases hw : withinV x 0 d.rules.owners with
        | true =>
          obtain ⟨z1, z2⟩ := numIn_yes (s := s) (lo := 0) hz hw
          rw [hn] at z1
          injection z1 with z1
          rw [z2] at hv
          unfold ValAt at hv
          rw [z1]; exact hv
        | false =>
          have := numIn_no (s := s) (lo := 0) hz hw
          rw [hn] at this
          cases this
      exact pr_ret (F := H) (nw_ok hx (ev_var rfl) ev_c (by walk_at "ev") hz ho hn) (fun H' e => by rw [← e1]; exact q n hn e1 H' e) H (Ex.refl H)
    | error e => exact pr_retE (F := H) (nw_er hx (ev_var rfl) ev_c (by walk_at "ev") hz ho hn (qe e hn)) H (Ex.refl H)
theorem sc_Server_need_login : FnScope ["self", "value"] ["self", "value"] d_Server_need_login.scope := ⟨rfl, rfl, rfl, by decide +kernel, rfl, by decide +kernel, by decide +kernel⟩
theorem ok_Server_need_login (T : Tx w K mg) : FnOk P w K mg base (L2N.CX P w) 5 (He.ma K (He.ga K "Server") "need_login") (fdOf K (He.ma K (He.ga K "Server") "need_login")) ["self", "value"] (spNL K) := by
  refine mkOkX T.F_Server_need_login sc_Server_need_login (fun vs H Q E h => ?_) (fun cdv A outer s H vs Q E hr h => ⟨_, (pss_cons (ps_expr (pe_call (ok_need_range T) (hr.mono (by decide)) rfl T.g_need_range T.kp_need_range T.B_need_range .nil (L2N.passes_call (L2N.takes_of rfl rfl rfl rfl) (fun _ _ _ _ h => h)) (pa_cons (pe_call (ok_is_within T) (hr.mono (by decide)) rfl T.g_is_within T.kp_is_within T.B_is_within .nil pass0 (pa_cons (pv 1) (pa_cons pe_int (pa_cons (pe_op op_sub (pe_callB call_len (by rfl) T.f_len (by decide +kernel) (pa_cons (pe_fld (pe_meth0 (pv 0) T.c_Server T.m_Server_state (ok_Server_state T) (hr.mono (by decide)) T.B_Server_state .nil pass0) rfl) pa_nil)) pe_int) pa_nil)))) (pa_cons pe_str pa_nil)))) (pss_one (ps_ret (pv 1)))), ?_⟩)
  · (repeat (first | exact congrArg List.length h.1 | obtain ⟨_, h⟩ := h))
  · obtain ⟨a, d, v, x, rfl, hs, hv, hl, q, qe⟩ := h
    obtain ⟨dx, ra, l, us, t, h1, ⟨rk, dr, h2⟩, h3, ⟨ds, lt, st, ls, ss, g1, g2, g3, g4, g5⟩⟩ := id hs
    have len := g3.len
    have hx : EgV K (tVar 1) [some (.ref a), some v] H x := gv_varE rfl hv
    refine pr_need (F := H) (b := withinV x 0 ((d.logins.length : Int) - 1)) (m := "unknown login") (e := rangeErrorWith "unknown login") (ea_cons (ev_isWith hx ev_c (ev_int (g := fun i j => .int (i - j)) (ev_is (ev_len2T (xs := ls) (by walk_at "ev") (st_of g2)) (by rw [len])) ev_c)) (ea_cons ev_c ea_nil)) (fun _ => ⟨by decide +kernel, rfl⟩) (fun hb => ?_) (fun hb => qe _ (logArg_no hb)) H (Ex.refl H)
    obtain ⟨z1, z2, z3⟩ := logArg_yes hl hb
    have e1 : v = .int (natV x : Int) := by
      rw [z2] at hv
      unfold ValAt at hv
      exact hv
    exact pr_ret (ev_var rfl) (q _ z1 e1)
theorem sc_Server_add : FnScope ["self", "state"] ["self", "state"] d_Server_add.scope := ⟨rfl, rfl, rfl, by decide +kernel, rfl, by decide +kernel, by decide +kernel⟩
theorem ok_Server_add (T : Tx w K mg) : FnOk P w K mg base (L2N.CX P w) 5 (He.ma K (He.ga K "Server") "add") (fdOf K (He.ma K (He.ga K "Server") "add")) ["self", "state"] (spAdd K) := by
  refine mkOkX T.F_Server_add sc_Server_add (fun vs H Q E h => ?_) (fun cdv A outer s H vs Q E hr h => ⟨_, (pss_cons (ps_expr (pe_call (ok_need_range T) (hr.mono (by decide)) rfl T.g_need_range T.kp_need_range T.B_need_range .nil (L2N.passes_call (L2N.takes_of rfl rfl rfl rfl) (fun _ _ _ _ h => h)) (pa_cons (pe_cmpR op_le (pe_callB call_len (by rfl) T.f_len (by decide +kernel) (pa_cons (pe_fld (pv 0) rfl) pa_nil)) (pe_gc rfl T.i_MOST_STEPS) (nomark _)) (pa_cons pe_str pa_nil)))) (pss_one (ps_expr (pe_bm PySem.F.plainAttrs_list PySem.F.slot_list_append PySem.F.type_list_append mt_append (pe_fld (pv 0) rfl) (pa_cons (pv 1) pa_nil))))), ?_⟩)
  · (repeat (first | exact congrArg List.length h.1 | obtain ⟨_, h⟩ := h))
  · obtain ⟨a, l, t, r, ds, d, rfl, ⟨dx, ra, vs, h1, h2, h3, h4⟩, ht, hl, q, qe⟩ := h
    have len := h4.len
    refine pr_need (F := H) (b := decide (ds.length ≤ 300)) (m := "there are 300 steps already") (e := rangeErrorWith "there are 300 steps already") (ea_cons (ev_is (ev_int (g := fun i j => .bl (decide (i ≤ j))) (ev_len2 (xs := vs) (by walk_at "ev") (sq_of h3)) ev_c) ?_) (ea_cons ev_c ea_nil)) (fun _ => ⟨by decide +kernel, rfl⟩) (fun hb H1 x1 => ?_) (fun hb => qe (by have := of_decide_eq_false hb; omega)) H (Ex.refl H)
    · rw [len]
      congr 1
      exact decide_eq_decide.mpr (by omega)
    · refine s_app (x1 _ _ h3) (ev_fld (ev_var rfl) (x1 _ _ h1) T.c_Server T.n_Server_states rfl) (ev_var rfl) (by omega) fun H2 x2 => ?_
      have x := x1.trans x2
      have bt : Bt l H (upd H2 l (.lst (vs ++ [.ref t]))) := Bt.upd (Bt.of x)
      have im : Im H (upd H2 l (.lst (vs ++ [.ref t]))) := Im.bt h3 bt
      have la : a ≠ l := fun z => by rw [z, h3] at h1; cases h1
      exact q (of_decide_eq_true hb) _ bt ⟨dx, ra, vs ++ [.ref t], by rw [upd_ne la]; exact x _ _ h1, h2.im im, upd_same, vs, t, rfl, ht.im im, h4.im im⟩
theorem sc_Server_undo : FnScope ["self"] ["self"] d_Server_undo.scope := ⟨rfl, rfl, rfl, by decide +kernel, rfl, by decide +kernel, by decide +kernel⟩
theorem ok_Server_undo (T : Tx w K mg) : FnOk P w K mg base (L2N.CX P w) 5 (He.ma K (He.ga K "Server") "undo") (fdOf K (He.ma K (He.ga K "Server") "undo")) ["self"] (spUndo K) := by
  refine mkOkX T.F_Server_undo sc_Server_undo (fun vs H Q E h => ?_) (fun cdv A outer s H vs Q E hr h => ⟨_, (pss_cons (ps_expr (pe_call (ok_need_range T) (hr.mono (by decide)) rfl T.g_need_range T.kp_need_range T.B_need_range .nil (L2N.passes_call (L2N.takes_of rfl rfl rfl rfl) (fun _ _ _ _ h => h)) (pa_cons (pe_cmpR op_gt (pe_callB call_len (by rfl) T.f_len (by decide +kernel) (pa_cons (pe_fld (pv 0) rfl) pa_nil)) pe_int (nomark _)) (pa_cons pe_str pa_nil)))) (pss_one (ps_expr (pe_bm0 PySem.F.plainAttrs_list PySem.F.slot_list_pop PySem.F.type_list_pop mt_pop (pe_fld (pv 0) rfl))))), ?_⟩)
  · (repeat (first | exact congrArg List.length h.1 | obtain ⟨_, h⟩ := h))
  · obtain ⟨a, l, r, d, ds, rfl, ⟨dx, ra, vs, h1, h2, h3, us, t, rfl, h4, h5⟩, q, qe⟩ := h
    have len := h5.len
    refine pr_need (F := H) (b := decide (ds ≠ [])) (m := "nothing to undo") (e := rangeErrorWith "nothing to undo") (ea_cons (ev_is (ev_int (g := fun i j => .bl (decide (j < i))) (ev_len2 (xs := us ++ [.ref t]) (by walk_at "ev") (sq_of h3)) ev_c) ?_) (ea_cons ev_c ea_nil)) (fun _ => ⟨by decide +kernel, rfl⟩) (fun hb H1 x1 => ?_) (fun hb => qe (by simpa using hb)) H (Ex.refl H)
    · rw [List.length_append, len]
      congr 1
      refine decide_eq_decide.mpr ⟨fun z y => ?_, fun z => ?_⟩
      · subst y
        have z2 : (1 : Int) < ((0 + 1 : Nat) : Int) := z
        omega
      · have : 0 < ds.length := List.length_pos_iff.mpr z
        show (1 : Int) < ((ds.length + 1 : Nat) : Int)
        omega
    · refine ⟨_, rfl, a, _, dx, _, .ref l, rfl, x1 _ _ h1, T.c_Server, T.n_Server_states, rfl, Or.inl ⟨rfl, _, sq_of (x1 _ _ h3)⟩, l, us ++ [.ref t], .ref t, rfl, rfl, x1 _ _ h3, by simp, ?_⟩
      rw [List.dropLast_concat]
      have bt : Bt l H (upd H1 l (.lst us)) := Bt.upd (Bt.of x1)
      have im : Im H (upd H1 l (.lst us)) := Im.bt h3 bt
      have la : a ≠ l := fun z => by rw [z, h3] at h1; cases h1
      exact q (of_decide_eq_true hb) _ bt ⟨dx, ra, us, by rw [upd_ne la]; exact x1 _ _ h1, h2.im im, upd_same, h5.im im⟩
end
end Sl
/-! ## SlSrv5 -/
namespace Sl
open PySem PySem.Spec PyProof.Rows L2 Evl
open R7239g.Spec (Err Res natOrNull markPlain loginPlain sessionPlain deskPlain newDesk loginAt sessionAt isThief currentOf knownFrom pageFrom sees seesCode seesNumber signedAs numberIn rangeText rangeErrorWith loginArg placeArg sessionLives noLogin naturalOf needs andThen askArg scanArg typeArg collectArg leaveArg tickArg happen stepAnswer codeLives isNear scannedBy inTime grantLives mayTake accepted)
def e300 : Err := rangeErrorWith "there are 300 steps already"
/-- what a step does -/
def StepPost (K : PySem.W.Frag) (H : Hp) (a l : Addr) (r : SR) (d : SD) (ds : List SD) (res : Res Evt) (Q : VK) (E : XK) : Prop :=
  (∀ e, res = .error e → Out K H E e) ∧ (∀ ev, res = .ok ev → 300 < (d :: ds).length → Out K H E e300) ∧
  ∀ ev, res = .ok ev → (d :: ds).length ≤ 300 → ∀ v H', Bt l H H' → SrvAt K H' a l r (happen d ev :: d :: ds) → ValAt K (nw H H') v (gv (stepAnswer d ev)) → Q v H'
def spStep (K : PySem.W.Frag) (n : Nat) (f : SD → List Val → Res Evt) : Sp := fun vs H Q E => ∃ (a l al : Addr) (r : SR) (d : SD) (ds : List SD) (us : List V) (args : List Val), vs = [.ref a, .ref al] ∧ SrvAt K H a l r (d :: ds) ∧ d.rules = r ∧ Wd d ∧ (d :: ds).length ≤ 1000 ∧ H al = some (.lst us) ∧ ValsAt K H us args ∧ n ≤ args.length ∧ StepPost K H a l r d ds (f d args) Q E
def argV (l : List Val) (i : Nat) : R7239g.Spec.Plain := Rust.taken (l.getD i .nothing)
theorem needs_t {b : Bool} {m : String} {x : Res Evt} (h : b = true) : needs b m x = x := by unfold needs; rw [h, if_pos rfl]
theorem needs_f {b : Bool} {m : String} {x : Res Evt} (h : b = false) : needs b m x = .error (rangeErrorWith m) := by unfold needs; rw [h, if_neg (by decide)]
theorem ValsAt.get {K : PySem.W.Frag} {H : Hp} : ∀ {vs : List V} {l : List Val} {i : Nat}, ValsAt K H vs l → i < l.length → ∃ v, vs[i]? = some v ∧ ValAt K H v (l.getD i .nothing)
  | vs, [], i, h, e => absurd e (Nat.not_lt_zero _)
  | vs, y :: r, i, h, e => by
    obtain ⟨v, us, rfl, b, c⟩ := h
    cases i with
    | zero => exact ⟨v, rfl, b⟩
    | succ i =>
      have z := ValsAt.get (l := r) (i := i) c (Nat.lt_of_succ_lt_succ e)
      exact z
section
variable {K : PySem.W.Frag} {σ : L2.St} {F : Hp} {te tf tg to ta tb tc td : TE} {tz : TS} {D : Ends} {E : XK} {a l : Addr} {w : SD} {r : SR} {ds : List SD}
theorem pr_add (hS : SrvAt K F a l r ds) (hl : ds.length ≤ 1000) (ho : Ev to σ F (.ref a)) (ht : Eg te σ F fun v H => ∃ t, v = .ref t ∧ StateAt K H t w) (qe : 300 < ds.length → Out K F E e300) (k : ds.length ≤ 300 → ∀ H', Bt l F H' → SrvAt K H' a l r (w :: ds) → tz D σ H') :
    Pr (tSeq (tDrop (tMeth (He.ga K "Server") "add" (spAdd K) [] E to (tCons te tNil))) tz) D σ F := fun H x => by
  have hS' := hS
  obtain ⟨dx, ra, vs, h1, _⟩ := hS
  refine ho H x _ fun H2 x2 => ⟨a, dx, _, rfl, x2 _ _ (x _ _ h1), rfl, ht H2 (x.trans x2) _ fun v H3 x3 p => ?_⟩
  obtain ⟨t, rfl, ht⟩ := p
  have y := x.trans (x2.trans x3)
  exact ⟨a, l, t, r, ds, w, rfl, hS'.mono y, ht, hl, fun h H' bt hs => k h H' ((Bt.of y).trans bt) hs, fun h => (qe h).mono y⟩
theorem eg_login {x : SLg} {s g : V} (h1 : Ev ta σ F (.int x.browser)) (h2 : Ev tb σ F (.int x.made)) (h3 : Ev tc σ F s) (h4 : Ev td σ F g) (h5 : Ev te σ F (.bl x.taken)) (hs : MarkAt F s x.scan) (hg : MarkAt F g x.given) :
    Eg (tMake (He.ga K "Login") (spFields (He.ga K "Login") 5 loF) [] E (tCons ta (tCons tb (tCons tc (tCons td (tCons te tNil)))))) σ F fun v H => LoginAt K H v x := fun H1 e Q q =>
  h1 H1 e _ fun H2 e2 => h2 H2 (e.trans e2) _ fun H3 e3 => h3 H3 ((e.trans e2).trans e3) _ fun H4 e4 => h4 H4 (((e.trans e2).trans e3).trans e4) _ fun H5 e5 => h5 H5 ((((e.trans e2).trans e3).trans e4).trans e5) _ fun H6 e6 => by
    intro p dx np nd ne
    refine ⟨p, dx, _, rfl, rfl, upd_same, fun H' hx k => ⟨rfl, ?_⟩⟩
    have x7 : Ex H6 H' := fun b o hb => Same.made np nd k b o hb
    have y := ((((e2.trans e3).trans e4).trans e5).trans e6).trans x7
    exact q (.ref p) H' y ⟨p, dx, s, g, rfl, hx, hs.im (Im.of (e.trans y)), hg.im (Im.of (e.trans y))⟩
theorem nh_ok {n : Nat} {v : V} {x : Val} {s : String} (hs : Sv K F a w) (ho : Ev to σ F (.ref a)) (h : Ev te σ F v) (hv : ValAt K F v x) (hb : s = "browser" ∨ s = "phone") (hn : placeArg s w (Rust.taken x) = .ok n) : Ev (tMeth (He.ga K "Server") "need_hand" (spNH K) [] E to (tCons te (tCons (tC (.str (Str.ofString s))) tNil))) σ F (.int n) := fun H1 e Q q => by
  have hs' := hs
  obtain ⟨dx, ra, l, us, t', h1, _⟩ := hs
  refine ho H1 e _ fun H2 e2 => ⟨a, dx, _, rfl, e2 _ _ (e _ _ h1), rfl, h H2 (e.trans e2) _ fun H3 e3 => ⟨a, w, v, x, s, rfl, hs'.mono ((e.trans e2).trans e3), hv.mono ((e.trans e2).trans e3), hb, fun m hm hv2 H4 e4 => ?_, fun e' he => by rw [hn] at he; cases he⟩⟩
  rw [hn] at hm
  injection hm with hm
  subst hm; subst hv2
  exact q H4 ((e2.trans e3).trans e4)
theorem nh_er {er : Err} {v : V} {x : Val} {s : String} (hs : Sv K F a w) (ho : Ev to σ F (.ref a)) (h : Ev te σ F v) (hv : ValAt K F v x) (hb : s = "browser" ∨ s = "phone") (hn : placeArg s w (Rust.taken x) = .error er) (hE : Out K F E er) : Er (tMeth (He.ga K "Server") "need_hand" (spNH K) [] E to (tCons te (tCons (tC (.str (Str.ofString s))) tNil))) σ F := fun H1 e Q => by
  have hs' := hs
  obtain ⟨dx, ra, l, us, t', h1, _⟩ := hs
  refine ho H1 e _ fun H2 e2 => ⟨a, dx, _, rfl, e2 _ _ (e _ _ h1), rfl, h H2 (e.trans e2) _ fun H3 e3 => ⟨a, w, v, x, s, rfl, hs'.mono ((e.trans e2).trans e3), hv.mono ((e.trans e2).trans e3), hb, (fun m hm => by rw [hn] at hm; cases hm), fun e' he => ?_⟩⟩
  rw [hn] at he
  injection he with he
  subst he
  exact hE.mono ((e.trans e2).trans e3)
theorem nl_ok {n : Nat} {v : V} {x : Val} (hs : Sv K F a w) (hl : w.logins.length ≤ 1000) (ho : Ev to σ F (.ref a)) (h : Ev te σ F v) (hv : ValAt K F v x) (hn : loginArg w (Rust.taken x) = .ok n) : Ev (tMeth (He.ga K "Server") "need_login" (spNL K) [] E to (tCons te tNil)) σ F (.int n) := fun H1 e Q q => by
  have hs' := hs
  obtain ⟨dx, ra, l, us, t', h1, _⟩ := hs
  refine ho H1 e _ fun H2 e2 => ⟨a, dx, _, rfl, e2 _ _ (e _ _ h1), rfl, h H2 (e.trans e2) _ fun H3 e3 => ⟨a, w, v, x, rfl, hs'.mono ((e.trans e2).trans e3), hv.mono ((e.trans e2).trans e3), hl, fun m hm hv2 H4 e4 => ?_, fun e' he => by rw [hn] at he; cases he⟩⟩
  rw [hn] at hm
  injection hm with hm
  subst hm; subst hv2
  exact q H4 ((e2.trans e3).trans e4)
theorem nl_er {er : Err} {v : V} {x : Val} (hs : Sv K F a w) (hl : w.logins.length ≤ 1000) (ho : Ev to σ F (.ref a)) (h : Ev te σ F v) (hv : ValAt K F v x) (hn : loginArg w (Rust.taken x) = .error er) (hE : Out K F E er) : Er (tMeth (He.ga K "Server") "need_login" (spNL K) [] E to (tCons te tNil)) σ F := fun H1 e Q => by
  have hs' := hs
  obtain ⟨dx, ra, l, us, t', h1, _⟩ := hs
  refine ho H1 e _ fun H2 e2 => ⟨a, dx, _, rfl, e2 _ _ (e _ _ h1), rfl, h H2 (e.trans e2) _ fun H3 e3 => ⟨a, w, v, x, rfl, hs'.mono ((e.trans e2).trans e3), hv.mono ((e.trans e2).trans e3), hl, (fun m hm => by rw [hn] at hm; cases hm), fun e' he => ?_⟩⟩
  rw [hn] at he
  injection he with he
  subst he
  exact hE.mono ((e.trans e2).trans e3)
theorem pr_parE {i j : Nat} {tr : TA} (h : Er te σ F) : Pr (tSeq (tPar i j (tCons te tr)) tz) D σ F := fun H e => h H e _
theorem pr_parE2 {i j : Nat} {v : V} (h : Ev te σ F v) (h2 : Er tf σ F) : Pr (tSeq (tPar i j (tCons te (tCons tf tNil))) tz) D σ F := fun H e => h H e _ fun H1 e1 => h2 H1 (e.trans e1) _
theorem ev_arg {al : Addr} {us : List V} {i : Int} {v : V} (h : Ev te σ F (.ref al)) (ha : F al = some (.lst us)) (hi : atI us i = some v) : Ev (tOp (rIxL K) te (tC (.int i))) σ F v := ev_op h ev_c (rv_ixL (sq_of ha) hi)
theorem pr_noth {H0 : Hp} {D : Ends} (d : Dom H0 F) (k : ∀ v H', Ex F H' → ValAt K (nw H0 H') v .nothing → D.rt v H') : Pr (tRet (tNew0 (He.ga K "Nothing"))) D σ F := fun H1 e x dx hx hd ne => by
  have y : Ex H1 (upd (upd H1 dx (.own x)) x (.ins (He.ga K "Nothing") dx [])) := (Ex.new hd).trans (Ex.new (by rw [upd_ne (Ne.symm ne)]; exact hx))
  refine k (.ref x) _ (e.trans y) ?_
  unfold ValAt
  exact ⟨x, dx, rfl, by rw [nw_at (d x (fresh_back e hx))]; exact upd_same⟩
theorem SrvAt.dom {H H' : Hp} {l : Addr} (h : H' l ≠ none) (bt : Bt l H H') : Dom H H' := fun z hz => bt.fresh hz h
end
local macro_rules
  | `(tactic| walk_at "ev") => `(tactic| first
    | exact ev_c
    | exact ev_var rfl
    | ((with_reducible refine' ev_fld ?k1 ?k2 ?k3 ?k4 ?k5); (case k1 => walk_at "ev"); (case k2 => assumption); (case k3 => exact Tx.cl (by assumption) rfl); (case k4 => exact Tx.na (by assumption) rfl); (case k5 => rfl))
    | (refine' ev_st ?k1 ?k2 ?k3; (case k1 => walk_at "ev"); (case k2 => assumption); (case k3 => assumption))
    | ((with_reducible refine' ev_ixT ?k1 ?k2 ?k3 ?k4); (case k1 => walk_at "ev"); (case k2 => walk_at "ev"); (case k3 => assumption); (case k4 => first | assumption | rfl))
    | (refine' ev_isN ?k1; (case k1 => walk_at "ev"))
    | (refine' ev_notN ?k1; (case k1 => walk_at "ev"))
    | (refine' ev_int ?k1 ?k2; (case k1 => walk_at "ev"); (case k2 => walk_at "ev"))
    | ((with_reducible refine' ev_sc ?k1 ?k2 ?k3); (case k1 => walk_at "ev"); (case k2 => walk_at "ev"); (case k3 => rfl))
    | ((with_reducible refine' ev_scn ?k1 ?k2 ?k3); (case k1 => walk_at "ev"); (case k2 => walk_at "ev"); (case k3 => rfl))
    | ((with_reducible refine' ev_notV ?k1); (case k1 => walk_at "ev"))
    | ((with_reducible refine' ev_andV ?k1 ?k2); (case k1 => walk_at "ev"); (case k2 => intro _; walk_at "ev"))
    | ((with_reducible refine' ev_orV ?k1 ?k2); (case k1 => walk_at "ev"); (case k2 => intro _; walk_at "ev"))
    | ((with_reducible refine' et_test ?k1); (case k1 => walk_at "ev"))
    | ((with_reducible refine' et_B ?k1); (case k1 => walk_at "ev"))
    | ((with_reducible refine' et_and ?k1 ?k2); (case k1 => walk_at "ev"); (case k2 => intro _; walk_at "ev"))
    | ((with_reducible refine' et_or ?k1 ?k2); (case k1 => walk_at "ev"); (case k2 => intro _; walk_at "ev"))
    | ((with_reducible refine' et_not ?k1); (case k1 => walk_at "ev"))
    | exact ea_nil
    | ((with_reducible refine' ea_cons ?k1 ?k2); (case k1 => walk_at "ev"); (case k2 => walk_at "ev")))
section
variable {P : Program} {w : World} {K : PySem.W.Frag} {mg : Str → Option Value} {base : Heap}
theorem sc_Server_ask : FnScope ["self", "arguments", "browser", "state", "login"] ["self", "arguments"] d_Server_ask.scope := ⟨rfl, rfl, rfl, by decide +kernel, rfl, by decide +kernel, by decide +kernel⟩
theorem ok_Server_ask (T : Tx w K mg) : FnOk P w K mg base (L2N.CX P w) 7 (He.ma K (He.ga K "Server") "ask") (fdOf K (He.ma K (He.ga K "Server") "ask")) ["self", "arguments"] (spStep K 1 fun d args => askArg d (argV args 0)) := by
  refine mkOkX T.F_Server_ask sc_Server_ask (fun vs H Q E h => ?_) (fun cdv A outer s H vs Q E hr h => ⟨_, (pss_cons (ps_par (i := 2) (j := 3) rfl sc_Server_ask.nd rfl rfl (by decide) rfl rfl (pa_cons (pe_meth (pv 0) T.c_Server T.m_Server_need_hand (ok_Server_need_hand T) (hr.mono (by decide)) T.B_Server_need_hand .nil (L2N.passes_call (L2N.takes_of rfl rfl rfl rfl) (fun _ _ _ _ h => h)) (pa_cons (pe_ix ix_list (pv 1) pe_int (fun _ _ => rfl)) (pa_cons pe_str pa_nil))) (pa_cons (pe_meth0 (pv 0) T.c_Server T.m_Server_state (ok_Server_state T) (hr.mono (by decide)) T.B_Server_state .nil pass0) pa_nil)) (by rfl)) (pss_cons (ps_set (i := 4) sc_Server_ask.nd rfl (Or.inl rfl) (pe_make T.k_Login (ok_Login_init T) (hr.mono (by decide)) rfl T.g_Login T.B_Login_init .nil pass0 (pa_cons (pv 2) (pa_cons (pe_fld (pv 3) rfl) (pa_cons pe_non (pa_cons pe_non (pa_cons pe_bl pa_nil))))))) (pss_cons (ps_expr (pe_meth (pv 0) T.c_Server T.m_Server_add (ok_Server_add T) (hr.mono (by decide)) T.B_Server_add .nil (L2N.passes_call (L2N.takes_of rfl rfl rfl rfl) (fun _ _ _ _ h => h)) (pa_cons (pe_make T.k_State (ok_State_init T) (hr.mono (by decide)) rfl T.g_State T.B_State_init .nil pass0 (pa_cons (pe_fld (pv 3) rfl) (pa_cons (pe_op op_catA (pe_fld (pv 3) rfl) (pe_tup (pa_cons (pv 4) pa_nil))) (pa_cons (pe_fld (pv 3) rfl) pa_nil)))) pa_nil))) (pss_one (ps_ret (pe_callB call_len (by rfl) T.f_len (by decide +kernel) (pa_cons (pe_fld (pv 3) rfl) pa_nil))))))), ?_⟩)
  · (repeat (first | exact congrArg List.length h.1 | obtain ⟨_, h⟩ := h))
  · obtain ⟨a, l, al, r, d, ds, us, args, rfl, hS, hr, hw, hlen, hal, hvs, hn, qe, q3, qo⟩ := h
    dsimp only at qe q3 qo
    have hs := hS.sv hr
    obtain ⟨dx, ra, vs, h1, h2, h3, ws, t, rfl, ⟨ds', lt, st, ls, ss, g1, g2, g3, g4, g5⟩, h5⟩ := id hS
    obtain ⟨v0, hv0, hx0⟩ := hvs.get (i := 0) (by omega)
    have hat := atI_nat hv0
    cases hp : placeArg "browser" d (argV args 0) with
    | error e =>
      exact pr_parE (F := H) (nh_er hs (ev_var rfl) (ev_arg (ev_var rfl) hal hat) hx0 (.inl rfl) hp (qe e (by unfold askArg; rw [hp]; rfl))) H (Ex.refl H)
    | ok b =>
      have hR : askArg d (argV args 0) = .ok (.ask b) := by unfold askArg; rw [hp]; rfl
      refine pr_par (F := H) (ea_cons (nh_ok hs (ev_var rfl) (ev_arg (ev_var rfl) hal hat) hx0 (.inl rfl) hp) (ea_cons (by walk_at "ev") ea_nil)) (pr_asgG (eg_login (x := ⟨b, d.now, none, none, false⟩) (ev_var rfl) (by walk_at "ev") ev_c ev_c ev_c rfl rfl) fun v H1 x1 hv => ?_) H (Ex.refl H)
      have g1' := x1 _ _ g1
      have g2' := x1 _ _ g2
      have g4' := x1 _ _ g4
      have len := g3.len
      refine pr_add (hS.mono x1) hlen (ev_var rfl) (eg_state (w := happen d (.ask b)) (by walk_at "ev") (egt_lgs (ls := ls ++ [v]) (et_cat (et_fld (v := .non) (by walk_at "ev") g2') (et_tup (ea_cons (ev_var rfl) ea_nil) (by show 1 ≤ 100000; decide)) (by have := hw.ll; rw [List.length_singleton]; omega)) ((g3.im (Im.of x1)).app ⟨v, [], rfl, hv, rfl⟩)) (eg_sss (by walk_at "ev") g4' (g5.im (Im.of x1)))) (fun h => (q3 _ hR h).mono x1) fun h H2 bt hs2 => ?_
      have bt2 := (Bt.of x1).trans bt
      have im2 : Im H H2 := Im.bt h3 bt2
      have g1'' := im2 _ _ g1 (sto_ins rfl)
      have g2'' := im2 _ _ g2 sto_tup
      refine pr_ret (F := H2) (ev_len2T (xs := ls) (by walk_at "ev") (st_of g2'')) (fun H3 e3 => qo _ hR h _ H3 (bt2.trans (Bt.of e3)) (hs2.mono e3) ?_) H2 (Ex.refl H2)
      show ValAt K _ _ (.int (d.logins.length : Int))
      unfold ValAt
      rw [len]
end
end Sl
/-! ## SlSrv6 -/
namespace Sl
open PySem PySem.Spec PyProof.Rows L2 Evl
open R7239g.Spec (Err Res natOrNull markPlain loginPlain sessionPlain deskPlain newDesk loginAt sessionAt isThief currentOf knownFrom pageFrom sees seesCode seesNumber signedAs numberIn rangeText rangeErrorWith loginArg placeArg sessionLives noLogin naturalOf needs andThen askArg scanArg typeArg collectArg leaveArg tickArg happen stepAnswer codeLives isNear scannedBy inTime grantLives mayTake accepted)
section
variable {K : PySem.W.Frag} {σ : L2.St} {F : Hp} {te tf tg to ta tb tc td : TE} {tz : TS} {D : Ends} {E : XK} {a l : Addr} {w : SD} {r : SR} {ds : List SD}
theorem ev_spsc {m : Str} {f : SD → Nat → Nat → Bool} {p n : Nat} (hm : (svF 0 0).lookup m = none) (hm2 : ∀ x y : Addr, (svF x y).lookup m = none) (hs : Sv K F a w) (hn : n < w.logins.length) (hl : w.logins.length ≤ 1000) (ho : Ev to σ F (.ref a)) (h : Ev te σ F (.int p)) (h2 : Ev tf σ F (.int n)) : Ev (tMeth (He.ga K "Server") m (spSC K f) [] E to (tCons te (tCons tf tNil))) σ F (.bl (f w p n)) := by
  have hs' := hs
  obtain ⟨dx, ra, l, us, t', h1, _⟩ := hs
  exact ev_meth ho h1 (hm2 _ _) (ea_cons h (ea_cons h2 ea_nil)) fun H1 e Q E q => ⟨a, w, p, n, rfl, hs'.mono e, hn, hl, fun H' e' => q _ H' e' rfl⟩
theorem eg_wl {t : Addr} {i : Nat} {x : SLg} (hst : StateAt K F t w) (hi : i < w.logins.length) (hl : w.logins.length ≤ 1000) (ho : Ev to σ F (.ref t)) (hie : Ev te σ F (.int i)) (hx : Eg tf σ F fun v H => LoginAt K H v x) : Eg (tMeth (He.ga K "State") "with_login" (spWL K) [] E to (tCons te (tCons tf tNil))) σ F fun v H => ∃ t, v = .ref t ∧ StateAt K H t { w with logins := w.logins.set i x } := fun H1 e Q q => by
  have hst' := hst
  obtain ⟨dx, lt, st, ls, ss, h1, _⟩ := hst
  refine ho H1 e _ fun H2 e2 => ⟨t, dx, _, rfl, e2 _ _ (e _ _ h1), rfl, hie H2 (e.trans e2) _ fun H3 e3 => hx H3 ((e.trans e2).trans e3) _ fun v H4 e4 hv => ?_⟩
  exact ⟨t, w, i, v, x, rfl, hst'.im (Im.of (((e.trans e2).trans e3).trans e4)), hi, hl, hv, fun t' H5 e5 h5 => q _ H5 (((e2.trans e3).trans e4).trans e5) ⟨t', rfl, h5⟩⟩
theorem eg_ws {i : Nat} {v : V} {x : Option SSs} (hst : Eg to σ F fun v H => ∃ t, v = .ref t ∧ StateAt K H t w) (hi : i < w.sessions.length) (hl : w.sessions.length ≤ 1000) (hie : Ev te σ F (.int i)) (hx : Eg tf σ F fun v H => SessAt H v x) : Eg (tMeth (He.ga K "State") "with_session" (spWS K) [] E to (tCons te (tCons tf tNil))) σ F fun v H => ∃ t, v = .ref t ∧ StateAt K H t { w with sessions := w.sessions.set i x } := fun H1 e Q q => by
  refine hst H1 e _ fun u H2 e2 p => ?_
  obtain ⟨t, rfl, hst⟩ := p
  have hst' := hst
  obtain ⟨dx, lt, st, ls, ss, h1, _⟩ := hst
  refine ⟨t, dx, _, rfl, h1, rfl, hie H2 (e.trans e2) _ fun H3 e3 => hx H3 ((e.trans e2).trans e3) _ fun v H4 e4 hv => ?_⟩
  exact ⟨t, w, i, v, x, rfl, hst'.im (Im.of (e3.trans e4)), hi, hl, hv, fun t' H5 e5 h5 => q _ H5 (((e2.trans e3).trans e4).trans e5) ⟨t', rfl, h5⟩⟩
end
theorem mark_non {H : Hp} {v : V} {o : Option SMk} (h : MarkAt H v o) : decide (v = V.non) = o.isNone := by
  cases o with
  | none => rw [show v = .non from h]; rfl
  | some m => obtain ⟨t, rfl, _⟩ := h; rfl
theorem opt_non {o : Option Nat} : decide (optV o = V.non) = o.isNone := by cases o <;> rfl
theorem beqN {a b : Nat} : decide (V.int (a : Int) = V.int (b : Int)) = (a == b) := by rw [decN, Bool.eq_iff_iff]; simp
local macro_rules
  | `(tactic| walk_at "ev") => `(tactic| first
    | exact ev_c
    | exact ev_var rfl
    | ((with_reducible refine' ev_fld ?k1 ?k2 ?k3 ?k4 ?k5); (case k1 => walk_at "ev"); (case k2 => assumption); (case k3 => exact Tx.cl (by assumption) rfl); (case k4 => exact Tx.na (by assumption) rfl); (case k5 => rfl))
    | (refine' ev_st ?k1 ?k2 ?k3; (case k1 => walk_at "ev"); (case k2 => assumption); (case k3 => assumption))
    | ((with_reducible refine' ev_ixT ?k1 ?k2 ?k3 ?k4); (case k1 => walk_at "ev"); (case k2 => walk_at "ev"); (case k3 => assumption); (case k4 => first | assumption | rfl))
    | (refine' ev_isN ?k1; (case k1 => walk_at "ev"))
    | (refine' ev_notN ?k1; (case k1 => walk_at "ev"))
    | (refine' ev_int ?k1 ?k2; (case k1 => walk_at "ev"); (case k2 => walk_at "ev"))
    | ((with_reducible refine' ev_sc ?k1 ?k2 ?k3); (case k1 => walk_at "ev"); (case k2 => walk_at "ev"); (case k3 => rfl))
    | ((with_reducible refine' ev_scn ?k1 ?k2 ?k3); (case k1 => walk_at "ev"); (case k2 => walk_at "ev"); (case k3 => rfl))
    | ((with_reducible refine' ev_notV ?k1); (case k1 => walk_at "ev"))
    | ((with_reducible refine' ev_andV ?k1 ?k2); (case k1 => walk_at "ev"); (case k2 => intro _; walk_at "ev"))
    | ((with_reducible refine' ev_orV ?k1 ?k2); (case k1 => walk_at "ev"); (case k2 => intro _; walk_at "ev"))
    | ((with_reducible refine' et_test ?k1); (case k1 => walk_at "ev"))
    | ((with_reducible refine' et_B ?k1); (case k1 => walk_at "ev"))
    | ((with_reducible refine' et_and ?k1 ?k2); (case k1 => walk_at "ev"); (case k2 => intro _; walk_at "ev"))
    | ((with_reducible refine' et_or ?k1 ?k2); (case k1 => walk_at "ev"); (case k2 => intro _; walk_at "ev"))
    | ((with_reducible refine' et_not ?k1); (case k1 => walk_at "ev"))
    | exact ea_nil
    | ((with_reducible refine' ea_cons ?k1 ?k2); (case k1 => walk_at "ev"); (case k2 => walk_at "ev")))
section
variable {P : Program} {w : World} {K : PySem.W.Frag} {mg : Str → Option Value} {base : Heap}
theorem sc_Server_scan_code : FnScope ["self", "arguments", "phone", "number", "state", "login", "is_alive", "scan", "given"] ["self", "arguments"] d_Server_scan_code.scope := ⟨rfl, rfl, rfl, by decide +kernel, rfl, by decide +kernel, by decide +kernel⟩
theorem ok_Server_scan_code (T : Tx w K mg) : FnOk P w K mg base (L2N.CX P w) 7 (He.ma K (He.ga K "Server") "scan_code") (fdOf K (He.ma K (He.ga K "Server") "scan_code")) ["self", "arguments"] (spStep K 2 fun d args => scanArg d (argV args 0) (argV args 1)) := by
  refine mkOkX T.F_Server_scan_code sc_Server_scan_code (fun vs H Q E h => ?_) (fun cdv A outer s H vs Q E hr h => ⟨_, (pss_cons (ps_par (i := 2) (j := 3) rfl sc_Server_scan_code.nd rfl rfl (by decide) rfl rfl (pa_cons (pe_meth (pv 0) T.c_Server T.m_Server_need_hand (ok_Server_need_hand T) (hr.mono (by decide)) T.B_Server_need_hand .nil (L2N.passes_call (L2N.takes_of rfl rfl rfl rfl) (fun _ _ _ _ h => h)) (pa_cons (pe_ix ix_list (pv 1) pe_int (fun _ _ => rfl)) (pa_cons pe_str pa_nil))) (pa_cons (pe_meth (pv 0) T.c_Server T.m_Server_need_login (ok_Server_need_login T) (hr.mono (by decide)) T.B_Server_need_login .nil (L2N.passes_call (L2N.takes_of rfl rfl rfl rfl) (fun _ _ _ _ h => h)) (pa_cons (pe_ix ix_list (pv 1) pe_int (fun _ _ => rfl)) pa_nil)) pa_nil)) (by rfl)) (pss_cons (ps_set (i := 4) sc_Server_scan_code.nd rfl (Or.inl rfl) (pe_meth0 (pv 0) T.c_Server T.m_Server_state (ok_Server_state T) (hr.mono (by decide)) T.B_Server_state .nil pass0)) (pss_cons (ps_set (i := 5) sc_Server_scan_code.nd rfl (Or.inl rfl) (pe_ix ix_tup (pe_fld (pv 4) rfl) (pv 3) (fun _ _ => rfl))) (pss_cons (ps_expr (pe_call (ok_need_range T) (hr.mono (by decide)) rfl T.g_need_range T.kp_need_range T.B_need_range .nil (L2N.passes_call (L2N.takes_of rfl rfl rfl rfl) (fun _ _ _ _ h => h)) (pa_cons (pe_meth (pv 0) T.c_Server T.m_Server_sees_code (ok_Server_sees_code T) (hr.mono (by decide)) T.B_Server_sees_code .nil pass0 (pa_cons (pv 2) (pa_cons (pv 3) pa_nil))) (pa_cons pe_str pa_nil)))) (pss_cons (ps_set (i := 6) sc_Server_scan_code.nd rfl (Or.inl rfl) (pe_or (pe_cmpR op_isN (pe_fld (pe_fld (pv 0) rfl) rfl) pe_non (nomark _)) (pe_one (pe_cmpR op_lt (pe_fld (pv 4) rfl) (pe_op op_add (pe_fld (pv 5) rfl) (pe_fld (pe_fld (pv 0) rfl) rfl)) (nomark _))))) (pss_cons (ps_expr (pe_call (ok_need_range T) (hr.mono (by decide)) rfl T.g_need_range T.kp_need_range T.B_need_range .nil (L2N.passes_call (L2N.takes_of rfl rfl rfl rfl) (fun _ _ _ _ h => h)) (pa_cons (pv 6) (pa_cons pe_str pa_nil)))) (pss_cons (ps_expr (pe_call (ok_need_range T) (hr.mono (by decide)) rfl T.g_need_range T.kp_need_range T.B_need_range .nil (L2N.passes_call (L2N.takes_of rfl rfl rfl rfl) (fun _ _ _ _ h => h)) (pa_cons (pe_cmpR op_isN (pe_fld (pv 5) rfl) pe_non (nomark _)) (pa_cons pe_str pa_nil)))) (pss_cons (ps_expr (pe_call (ok_need_range T) (hr.mono (by decide)) rfl T.g_need_range T.kp_need_range T.B_need_range .nil (L2N.passes_call (L2N.takes_of rfl rfl rfl rfl) (fun _ _ _ _ h => h)) (pa_cons (pe_or (pe_not (pe_fld (pe_fld (pv 0) rfl) rfl)) (pe_one (pe_cmpR op_eq (pe_fld (pv 5) rfl) (pv 2) (nomark _)))) (pa_cons pe_str pa_nil)))) (pss_cons (ps_set (i := 7) sc_Server_scan_code.nd rfl (Or.inl rfl) (pe_tup (pa_cons (pv 2) (pa_cons (pe_fld (pv 4) rfl) pa_nil)))) (pss_cons (ps_set (i := 8) sc_Server_scan_code.nd rfl (Or.inl rfl) (pe_ifExp (pt_cmpR op_isN (pe_fld (pe_fld (pv 0) rfl) rfl) pe_non (nomark _)) (pv 7) pe_non)) (pss_cons (ps_expr (pe_meth (pv 0) T.c_Server T.m_Server_add (ok_Server_add T) (hr.mono (by decide)) T.B_Server_add .nil (L2N.passes_call (L2N.takes_of rfl rfl rfl rfl) (fun _ _ _ _ h => h)) (pa_cons (pe_meth (pv 4) T.c_State T.m_State_with_login (ok_State_with_login T) (hr.mono (by decide)) T.B_State_with_login .nil pass0 (pa_cons (pv 3) (pa_cons (pe_make T.k_Login (ok_Login_init T) (hr.mono (by decide)) rfl T.g_Login T.B_Login_init .nil pass0 (pa_cons (pe_fld (pv 5) rfl) (pa_cons (pe_fld (pv 5) rfl) (pa_cons (pv 7) (pa_cons (pv 8) (pa_cons (pe_fld (pv 5) rfl) pa_nil)))))) pa_nil))) pa_nil))) (pss_one (ps_ret (pe_new0 T.noth.1 T.noth.2 (Tx.kp_Nothing T) rfl T.g_Nothing)))))))))))))), ?_⟩)
  · (repeat (first | exact congrArg List.length h.1 | obtain ⟨_, h⟩ := h))
  · obtain ⟨a, l, al, r, d, ds, us, args, rfl, hS, hr, hw, hlen, hal, hvs, hn, qe, q3, qo⟩ := h
    dsimp only at qe q3 qo
    have hs := hS.sv hr
    obtain ⟨dx, ra, vs, h1, h2, h3, ws, t, rfl, hst, h5⟩ := id hS
    obtain ⟨rk, dr, hra⟩ := h2
    obtain ⟨ds', lt, st, ls, ss, g1, g2, g3, g4, g5⟩ := id hst
    obtain ⟨v0, hv0, hx0⟩ := hvs.get (i := 0) (by omega)
    have hat0 := atI_nat hv0
    obtain ⟨v1, hv1, hx1⟩ := hvs.get (i := 1) (by omega)
    have hat1 := atI_nat hv1
    subst hr
    have arg0 : ∀ σ : L2.St, σ[1]? = some (some (.ref al)) → Ev (tOp (rIxL K) (tVar 1) (tC (.int 0))) σ H v0 := fun σ e => ev_arg (ev_var e) hal hat0
    have arg1 : ∀ σ : L2.St, σ[1]? = some (some (.ref al)) → Ev (tOp (rIxL K) (tVar 1) (tC (.int 1))) σ H v1 := fun σ e => ev_arg (ev_var e) hal hat1
    cases hp : placeArg "phone" d (argV args 0) with
    | error e => exact pr_parE (F := H) (nh_er hs (ev_var rfl) (arg0 _ rfl) hx0 (.inr rfl) hp (qe e (by unfold scanArg; rw [hp]; rfl))) H (Ex.refl H)
    | ok p =>
    cases hlg : loginArg d (argV args 1) with
    | error e => exact pr_parE2 (F := H) (nh_ok hs (ev_var rfl) (arg0 _ rfl) hx0 (.inr rfl) hp) (nl_er hs hw.ll (ev_var rfl) (arg1 _ rfl) hx1 hlg (qe e (by unfold scanArg; rw [hp, andThen_ok, hlg]; rfl))) H (Ex.refl H)
    | ok n =>
    have hR : scanArg d (argV args 0) (argV args 1) = needs (seesCode d p n) "code is not seen" (needs (codeLives d n) "code has expired" (needs (loginAt d n).scan.isNone "code was scanned already" (needs (isNear d p n) "phone is not near" (.ok (.scan p n))))) := by unfold scanArg; rw [hp, andThen_ok, hlg]; rfl
    have hnl : n < d.logins.length := by
      unfold loginArg at hlg
      split at hlg
      · split at hlg
        · rename_i hc; injection hlg with hlg; subst hlg; exact hc
        · cases hlg
      · cases hlg
    obtain ⟨lv, hlv, ⟨la, ldx, sc, gi, rfl, k1, k2, k3⟩⟩ := g3.get (login_at hnl)
    have hatn := atI_nat hlv
    refine pr_par (F := H) (ea_cons (nh_ok hs (ev_var rfl) (arg0 _ rfl) hx0 (.inr rfl) hp) (ea_cons (nl_ok hs hw.ll (ev_var rfl) (arg1 _ rfl) hx1 hlg) ea_nil)) (pr_asg (v := .ref t) (by walk_at "ev") (pr_asg (v := .ref la) (by walk_at "ev") ?_)) H (Ex.refl H)
    refine pr_need (b := seesCode d p n) (m := "code is not seen") (e := rangeErrorWith "code is not seen") (ea_cons (ev_spsc rfl (fun _ _ => rfl) hs hnl hw.ll (ev_var rfl) (ev_var rfl) (ev_var rfl)) (ea_cons ev_c ea_nil)) (fun _ => ⟨by decide +kernel, rfl⟩) (fun hb1 => ?_) fun hb => qe _ (by rw [hR, needs_f hb])
    rw [needs_t hb1] at hR
    refine pr_asg (v := .bl (codeLives d n)) ?_ ?_
    · cases hlf : d.rules.life with
      | none =>
        have e1 : codeLives d n = true := by unfold codeLives; rw [hlf]
        rw [e1]
        exact ev_orV (a := true) (b := true) (ev_is (ev_isN (x := optV d.rules.life) (by walk_at "ev")) (by rw [hlf]; rfl)) fun h => Bool.noConfusion h
      | some e =>
        have e1 : codeLives d n = decide (d.now < (loginAt d n).made + e) := by unfold codeLives; rw [hlf]
        rw [e1]
        refine ev_is (ev_orV (a := false) (ev_is (ev_isN (x := optV d.rules.life) (by walk_at "ev")) (by rw [hlf]; rfl)) fun _ => ev_int (g := fun i j => .bl (decide (i < j))) (i := (d.now : Int)) (by walk_at "ev") (ev_addN (a := (loginAt d n).made) (b := e) (by walk_at "ev") (ev_is (v := optV d.rules.life) (by walk_at "ev") (by rw [hlf]; rfl)))) ?_
        rw [Bool.false_or]
        congr 1
        exact decide_eq_decide.mpr (by omega)
    refine pr_need (b := codeLives d n) (m := "code has expired") (e := rangeErrorWith "code has expired") (ea_cons (ev_var rfl) (ea_cons ev_c ea_nil)) (fun _ => ⟨by decide +kernel, rfl⟩) (fun hb2 => ?_) fun hb => qe _ (by rw [hR, needs_f hb])
    rw [needs_t hb2] at hR
    refine pr_need (b := (loginAt d n).scan.isNone) (m := "code was scanned already") (e := rangeErrorWith "code was scanned already") (ea_cons (ev_is (ev_isN (x := sc) (by walk_at "ev")) (by rw [mark_non k2])) (ea_cons ev_c ea_nil)) (fun _ => ⟨by decide +kernel, rfl⟩) (fun hb3 => ?_) fun hb => qe _ (by rw [hR, needs_f hb])
    rw [needs_t hb3] at hR
    refine pr_need (b := isNear d p n) (m := "phone is not near") (e := rangeErrorWith "phone is not near") (ea_cons (ev_is (ev_orV (ev_notV (a := d.rules.near) (by walk_at "ev")) fun _ => ev_sc (x := .int (loginAt d n).browser) (y := .int p) (by walk_at "ev") (ev_var rfl) rfl) (by rw [beqN]; rfl)) (ea_cons ev_c ea_nil)) (fun _ => ⟨by decide +kernel, rfl⟩) (fun hb4 => ?_) fun hb => qe _ (by rw [hR, needs_f hb])
    rw [needs_t hb4] at hR
    have hgn : (loginAt d n).given = none := hw.sg n _ (login_at hnl) (by simpa using hb3)
    refine pr_asgG (P := fun v H => ∃ u, v = .ref u ∧ H u = some (.tup [.int p, .int d.now])) (et_tup (ea_cons (ev_var rfl) (ea_cons (by walk_at "ev") ea_nil)) (by show 2 ≤ 100000; decide)) fun v H1 x1 hv => ?_
    obtain ⟨u, rfl, hu⟩ := hv
    have g1' := x1 _ _ g1
    have h1' := x1 _ _ h1
    have hra' := x1 _ _ hra
    have k1' := x1 _ _ k1
    let o2 : Option SMk := if d.rules.number.isNone then some ⟨p, d.now⟩ else (loginAt d n).given
    refine pr_asg (v := if d.rules.number.isNone then .ref u else .non) ?_ ?_
    · refine ev_if (b := d.rules.number.isNone) (et_is (et_B (ev_isN (x := optV d.rules.number) (by walk_at "ev"))) opt_non) (fun hb => ?_) fun hb => ?_
      · rw [hb, if_pos rfl]; exact ev_var rfl
      · rw [hb, if_neg (by decide)]; exact ev_c
    have hm2 : MarkAt H1 (if d.rules.number.isNone then .ref u else .non) o2 := by
      show MarkAt H1 _ (if d.rules.number.isNone then some ⟨p, d.now⟩ else (loginAt d n).given)
      cases d.rules.number.isNone with
      | true => rw [if_pos rfl, if_pos rfl]; exact ⟨u, rfl, hu⟩
      | false => rw [if_neg (by decide), if_neg (by decide), hgn]; rfl
    refine pr_add (hS.mono x1) hlen (ev_var rfl) (eg_wl (w := d) (i := n) (x := { loginAt d n with scan := some ⟨p, d.now⟩, given := o2 }) (hst.im (Im.of x1)) hnl hw.ll (ev_var rfl) (ev_var rfl) (eg_login (s := .ref u) (by walk_at "ev") (by walk_at "ev") (ev_var rfl) (ev_var rfl) (by walk_at "ev") ⟨u, rfl, hu⟩ hm2)) (fun h => (q3 _ hR h).mono x1) fun h H2 bt hs2 => ?_
    have bt2 := (Bt.of x1).trans bt
    have hl2 : H2 l ≠ none := by obtain ⟨_, _, _, _, _, z, _⟩ := hs2; rw [z]; simp
    exact pr_noth (F := H2) (SrvAt.dom hl2 bt2) (fun v H3 x3 hv => qo _ hR h v H3 (bt2.trans (Bt.of x3)) (hs2.mono x3) hv) H2 (Ex.refl H2)
end
end Sl
/-! ## SlSrv7 -/
namespace Sl
open PySem PySem.Spec PyProof.Rows L2 Evl
open R7239g.Spec (Err Res natOrNull markPlain loginPlain sessionPlain deskPlain newDesk loginAt sessionAt isThief currentOf knownFrom pageFrom sees seesCode seesNumber signedAs numberIn rangeText rangeErrorWith loginArg placeArg sessionLives noLogin naturalOf needs andThen askArg scanArg typeArg collectArg leaveArg tickArg happen stepAnswer codeLives isNear scannedBy inTime grantLives mayTake accepted)
theorem mark_yes {H : Hp} {v : V} {o : Option SMk} (h : MarkAt H v o) : (!decide (v = V.non)) = o.isSome := by
  rw [mark_non h]; cases o <;> rfl
theorem opt_yes {o : Option Nat} : (!decide (optV o = V.non)) = o.isSome := by cases o <;> rfl
theorem log_lt {d : SD} {x : R7239g.Spec.Plain} {n : Nat} (h : loginArg d x = .ok n) : n < d.logins.length := by
  unfold loginArg at h
  split at h
  · split at h
    · rename_i hc; injection h with h; subst h; exact hc
    · cases h
  · cases h
local macro_rules
  | `(tactic| walk_at "ev") => `(tactic| first
    | exact ev_c
    | exact ev_var rfl
    | ((with_reducible refine' ev_fld ?k1 ?k2 ?k3 ?k4 ?k5); (case k1 => walk_at "ev"); (case k2 => assumption); (case k3 => exact Tx.cl (by assumption) rfl); (case k4 => exact Tx.na (by assumption) rfl); (case k5 => rfl))
    | (refine' ev_st ?k1 ?k2 ?k3; (case k1 => walk_at "ev"); (case k2 => assumption); (case k3 => assumption))
    | ((with_reducible refine' ev_ixT ?k1 ?k2 ?k3 ?k4); (case k1 => walk_at "ev"); (case k2 => walk_at "ev"); (case k3 => assumption); (case k4 => first | assumption | rfl))
    | (refine' ev_isN ?k1; (case k1 => walk_at "ev"))
    | (refine' ev_notN ?k1; (case k1 => walk_at "ev"))
    | (refine' ev_int ?k1 ?k2; (case k1 => walk_at "ev"); (case k2 => walk_at "ev"))
    | ((with_reducible refine' ev_sc ?k1 ?k2 ?k3); (case k1 => walk_at "ev"); (case k2 => walk_at "ev"); (case k3 => rfl))
    | ((with_reducible refine' ev_scn ?k1 ?k2 ?k3); (case k1 => walk_at "ev"); (case k2 => walk_at "ev"); (case k3 => rfl))
    | ((with_reducible refine' ev_notV ?k1); (case k1 => walk_at "ev"))
    | ((with_reducible refine' ev_andV ?k1 ?k2); (case k1 => walk_at "ev"); (case k2 => intro _; walk_at "ev"))
    | ((with_reducible refine' ev_orV ?k1 ?k2); (case k1 => walk_at "ev"); (case k2 => intro _; walk_at "ev"))
    | ((with_reducible refine' et_test ?k1); (case k1 => walk_at "ev"))
    | ((with_reducible refine' et_B ?k1); (case k1 => walk_at "ev"))
    | ((with_reducible refine' et_and ?k1 ?k2); (case k1 => walk_at "ev"); (case k2 => intro _; walk_at "ev"))
    | ((with_reducible refine' et_or ?k1 ?k2); (case k1 => walk_at "ev"); (case k2 => intro _; walk_at "ev"))
    | ((with_reducible refine' et_not ?k1); (case k1 => walk_at "ev"))
    | exact ea_nil
    | ((with_reducible refine' ea_cons ?k1 ?k2); (case k1 => walk_at "ev"); (case k2 => walk_at "ev")))
section
variable {P : Program} {w : World} {K : PySem.W.Frag} {mg : Str → Option Value} {base : Heap}
theorem sc_Server_type_in : FnScope ["self", "arguments", "phone", "number", "state", "login", "given"] ["self", "arguments"] d_Server_type_in.scope := ⟨rfl, rfl, rfl, by decide +kernel, rfl, by decide +kernel, by decide +kernel⟩
theorem ok_Server_type_in (T : Tx w K mg) : FnOk P w K mg base (L2N.CX P w) 7 (He.ma K (He.ga K "Server") "type_in") (fdOf K (He.ma K (He.ga K "Server") "type_in")) ["self", "arguments"] (spStep K 2 fun d args => typeArg d (argV args 0) (argV args 1)) := by
  refine mkOkX T.F_Server_type_in sc_Server_type_in (fun vs H Q E h => ?_) (fun cdv A outer s H vs Q E hr h => ⟨_, (pss_cons (ps_par (i := 2) (j := 3) rfl sc_Server_type_in.nd rfl rfl (by decide) rfl rfl (pa_cons (pe_meth (pv 0) T.c_Server T.m_Server_need_hand (ok_Server_need_hand T) (hr.mono (by decide)) T.B_Server_need_hand .nil (L2N.passes_call (L2N.takes_of rfl rfl rfl rfl) (fun _ _ _ _ h => h)) (pa_cons (pe_ix ix_list (pv 1) pe_int (fun _ _ => rfl)) (pa_cons pe_str pa_nil))) (pa_cons (pe_meth (pv 0) T.c_Server T.m_Server_need_login (ok_Server_need_login T) (hr.mono (by decide)) T.B_Server_need_login .nil (L2N.passes_call (L2N.takes_of rfl rfl rfl rfl) (fun _ _ _ _ h => h)) (pa_cons (pe_ix ix_list (pv 1) pe_int (fun _ _ => rfl)) pa_nil)) pa_nil)) (by rfl)) (pss_cons (ps_set (i := 4) sc_Server_type_in.nd rfl (Or.inl rfl) (pe_meth0 (pv 0) T.c_Server T.m_Server_state (ok_Server_state T) (hr.mono (by decide)) T.B_Server_state .nil pass0)) (pss_cons (ps_set (i := 5) sc_Server_type_in.nd rfl (Or.inl rfl) (pe_ix ix_tup (pe_fld (pv 4) rfl) (pv 3) (fun _ _ => rfl))) (pss_cons (ps_expr (pe_call (ok_need_range T) (hr.mono (by decide)) rfl T.g_need_range T.kp_need_range T.B_need_range .nil (L2N.passes_call (L2N.takes_of rfl rfl rfl rfl) (fun _ _ _ _ h => h)) (pa_cons (pe_cmpR op_notN (pe_fld (pe_fld (pv 0) rfl) rfl) pe_non (nomark _)) (pa_cons pe_str pa_nil)))) (pss_cons (ps_expr (pe_call (ok_need_range T) (hr.mono (by decide)) rfl T.g_need_range T.kp_need_range T.B_need_range .nil (L2N.passes_call (L2N.takes_of rfl rfl rfl rfl) (fun _ _ _ _ h => h)) (pa_cons (pe_and (pe_cmpR op_notN (pe_fld (pv 5) rfl) pe_non (nomark _)) (pe_one (pe_cmpR op_eq (pe_ix ix_tup (pe_fld (pv 5) rfl) pe_int (fun _ _ => rfl)) (pv 2) (nomark _)))) (pa_cons pe_str pa_nil)))) (pss_cons (ps_expr (pe_call (ok_need_range T) (hr.mono (by decide)) rfl T.g_need_range T.kp_need_range T.B_need_range .nil (L2N.passes_call (L2N.takes_of rfl rfl rfl rfl) (fun _ _ _ _ h => h)) (pa_cons (pe_cmpR op_isN (pe_fld (pv 5) rfl) pe_non (nomark _)) (pa_cons pe_str pa_nil)))) (pss_cons (ps_expr (pe_call (ok_need_range T) (hr.mono (by decide)) rfl T.g_need_range T.kp_need_range T.B_need_range .nil (L2N.passes_call (L2N.takes_of rfl rfl rfl rfl) (fun _ _ _ _ h => h)) (pa_cons (pe_cmpR op_lt (pe_fld (pv 4) rfl) (pe_op op_add (pe_ix ix_tup (pe_fld (pv 5) rfl) pe_int (fun _ _ => rfl)) (pe_fld (pe_fld (pv 0) rfl) rfl)) (nomark _)) (pa_cons pe_str pa_nil)))) (pss_cons (ps_expr (pe_call (ok_need_range T) (hr.mono (by decide)) rfl T.g_need_range T.kp_need_range T.B_need_range .nil (L2N.passes_call (L2N.takes_of rfl rfl rfl rfl) (fun _ _ _ _ h => h)) (pa_cons (pe_meth (pv 0) T.c_Server T.m_Server_sees_number (ok_Server_sees_number T) (hr.mono (by decide)) T.B_Server_sees_number .nil pass0 (pa_cons (pv 2) (pa_cons (pv 3) pa_nil))) (pa_cons pe_str pa_nil)))) (pss_cons (ps_set (i := 6) sc_Server_type_in.nd rfl (Or.inl rfl) (pe_tup (pa_cons (pv 2) (pa_cons (pe_fld (pv 4) rfl) pa_nil)))) (pss_cons (ps_expr (pe_meth (pv 0) T.c_Server T.m_Server_add (ok_Server_add T) (hr.mono (by decide)) T.B_Server_add .nil (L2N.passes_call (L2N.takes_of rfl rfl rfl rfl) (fun _ _ _ _ h => h)) (pa_cons (pe_meth (pv 4) T.c_State T.m_State_with_login (ok_State_with_login T) (hr.mono (by decide)) T.B_State_with_login .nil pass0 (pa_cons (pv 3) (pa_cons (pe_make T.k_Login (ok_Login_init T) (hr.mono (by decide)) rfl T.g_Login T.B_Login_init .nil pass0 (pa_cons (pe_fld (pv 5) rfl) (pa_cons (pe_fld (pv 5) rfl) (pa_cons (pe_fld (pv 5) rfl) (pa_cons (pv 6) (pa_cons (pe_fld (pv 5) rfl) pa_nil)))))) pa_nil))) pa_nil))) (pss_one (ps_ret (pe_new0 T.noth.1 T.noth.2 (Tx.kp_Nothing T) rfl T.g_Nothing))))))))))))), ?_⟩)
  · (repeat (first | exact congrArg List.length h.1 | obtain ⟨_, h⟩ := h))
  · obtain ⟨a, l, al, r, d, ds, us, args, rfl, hS, hr, hw, hlen, hal, hvs, hn, qe, q3, qo⟩ := h
    dsimp only at qe q3 qo
    have hs := hS.sv hr
    obtain ⟨dx, ra, vs, h1, h2, h3, ws, t, rfl, hst, h5⟩ := id hS
    obtain ⟨rk, dr, hra⟩ := h2
    obtain ⟨ds', lt, st, ls, ss, g1, g2, g3, g4, g5⟩ := id hst
    obtain ⟨v0, hv0, hx0⟩ := hvs.get (i := 0) (by omega)
    have hat0 := atI_nat hv0
    obtain ⟨v1, hv1, hx1⟩ := hvs.get (i := 1) (by omega)
    have hat1 := atI_nat hv1
    subst hr
    have arg0 : ∀ σ : L2.St, σ[1]? = some (some (.ref al)) → Ev (tOp (rIxL K) (tVar 1) (tC (.int 0))) σ H v0 := fun σ e => ev_arg (ev_var e) hal hat0
    have arg1 : ∀ σ : L2.St, σ[1]? = some (some (.ref al)) → Ev (tOp (rIxL K) (tVar 1) (tC (.int 1))) σ H v1 := fun σ e => ev_arg (ev_var e) hal hat1
    cases hp : placeArg "phone" d (argV args 0) with
    | error e => exact pr_parE (F := H) (nh_er hs (ev_var rfl) (arg0 _ rfl) hx0 (.inr rfl) hp (qe e (by unfold typeArg; rw [hp]; rfl))) H (Ex.refl H)
    | ok p =>
    cases hlg : loginArg d (argV args 1) with
    | error e => exact pr_parE2 (F := H) (nh_ok hs (ev_var rfl) (arg0 _ rfl) hx0 (.inr rfl) hp) (nl_er hs hw.ll (ev_var rfl) (arg1 _ rfl) hx1 hlg (qe e (by unfold typeArg; rw [hp, andThen_ok, hlg]; rfl))) H (Ex.refl H)
    | ok n =>
    have hR : typeArg d (argV args 0) (argV args 1) = needs d.rules.number.isSome "no number is asked for" (needs (scannedBy d p n) "code was not scanned by this phone" (needs (loginAt d n).given.isNone "login was given already" (needs (inTime d n) "number has expired" (needs (seesNumber d p n) "number is not seen" (.ok (.type p n)))))) := by unfold typeArg; rw [hp, andThen_ok, hlg]; rfl
    have hnl : n < d.logins.length := log_lt hlg
    obtain ⟨lv, hlv, ⟨la, ldx, sc, gi, rfl, k1, k2, k3⟩⟩ := g3.get (login_at hnl)
    have hatn := atI_nat hlv
    refine pr_par (F := H) (ea_cons (nh_ok hs (ev_var rfl) (arg0 _ rfl) hx0 (.inr rfl) hp) (ea_cons (nl_ok hs hw.ll (ev_var rfl) (arg1 _ rfl) hx1 hlg) ea_nil)) (pr_asg (v := .ref t) (by walk_at "ev") (pr_asg (v := .ref la) (by walk_at "ev") ?_)) H (Ex.refl H)
    refine pr_need (b := d.rules.number.isSome) (m := "no number is asked for") (e := rangeErrorWith "no number is asked for") (ea_cons (ev_is (ev_notN (x := optV d.rules.number) (by walk_at "ev")) (by rw [opt_yes])) (ea_cons ev_c ea_nil)) (fun _ => ⟨by decide +kernel, rfl⟩) (fun hb1 => ?_) fun hb => qe _ (by rw [hR, needs_f hb])
    rw [needs_t hb1] at hR
    obtain ⟨tn, htn⟩ := Option.isSome_iff_exists.mp hb1
    refine pr_need (b := scannedBy d p n) (m := "code was not scanned by this phone") (e := rangeErrorWith "code was not scanned by this phone") (ea_cons ?_ (ea_cons ev_c ea_nil)) (fun _ => ⟨by decide +kernel, rfl⟩) (fun hb2 => ?_) fun hb => qe _ (by rw [hR, needs_f hb])
    · cases hsc : (loginAt d n).scan with
      | none =>
        rw [hsc] at k2
        have e1 : scannedBy d p n = false := by unfold scannedBy; rw [hsc]
        rw [e1]
        exact ev_andV (a := false) (b := false) (ev_is (ev_notN (x := sc) (by walk_at "ev")) (by rw [mark_yes k2]; rfl)) fun h => Bool.noConfusion h
      | some m =>
        rw [hsc] at k2
        have e1 : scannedBy d p n = (m.phone == p) := by unfold scannedBy; rw [hsc]
        have k2' := k2
        obtain ⟨mt, rfl, hmt⟩ := k2
        rw [e1]
        exact ev_is (ev_andV (a := true) (ev_is (ev_notN (x := .ref mt) (by walk_at "ev")) (by rw [mark_yes k2']; rfl)) fun _ => ev_sc (x := .int m.phone) (y := .int p) (ev_ixT (by walk_at "ev") ev_c hmt rfl) (ev_var rfl) rfl) (by rw [beqN, Bool.true_and])
    rw [needs_t hb2] at hR
    obtain ⟨m, hsc⟩ : ∃ m, (loginAt d n).scan = some m := by
      cases hsc : (loginAt d n).scan with
      | none => unfold scannedBy at hb2; rw [hsc] at hb2; cases hb2
      | some m => exact ⟨m, rfl⟩
    refine pr_need (b := (loginAt d n).given.isNone) (m := "login was given already") (e := rangeErrorWith "login was given already") (ea_cons (ev_is (ev_isN (x := gi) (by walk_at "ev")) (by rw [mark_non k3])) (ea_cons ev_c ea_nil)) (fun _ => ⟨by decide +kernel, rfl⟩) (fun hb3 => ?_) fun hb => qe _ (by rw [hR, needs_f hb])
    rw [needs_t hb3] at hR
    have k2s := k2
    rw [hsc] at k2
    obtain ⟨mt, rfl, hmt⟩ := k2
    refine pr_need (b := inTime d n) (m := "number has expired") (e := rangeErrorWith "number has expired") (ea_cons ?_ (ea_cons ev_c ea_nil)) (fun _ => ⟨by decide +kernel, rfl⟩) (fun hb4 => ?_) fun hb => qe _ (by rw [hR, needs_f hb])
    · have e1 : inTime d n = decide (d.now < m.time + tn) := by unfold inTime; rw [hsc, htn]
      rw [e1]
      refine ev_is (ev_int (g := fun i j => .bl (decide (i < j))) (i := (d.now : Int)) (by walk_at "ev") (ev_addN (a := m.time) (b := tn) (ev_ixT (by walk_at "ev") ev_c hmt rfl) (ev_is (v := optV d.rules.number) (by walk_at "ev") (by rw [htn]; rfl)))) ?_
      congr 1
      exact decide_eq_decide.mpr (by omega)
    rw [needs_t hb4] at hR
    refine pr_need (b := seesNumber d p n) (m := "number is not seen") (e := rangeErrorWith "number is not seen") (ea_cons (ev_spsc rfl (fun _ _ => rfl) hs hnl hw.ll (ev_var rfl) (ev_var rfl) (ev_var rfl)) (ea_cons ev_c ea_nil)) (fun _ => ⟨by decide +kernel, rfl⟩) (fun hb5 => ?_) fun hb => qe _ (by rw [hR, needs_f hb])
    rw [needs_t hb5] at hR
    refine pr_asgG (P := fun v H => ∃ u, v = .ref u ∧ H u = some (.tup [.int p, .int d.now])) (et_tup (ea_cons (ev_var rfl) (ea_cons (by walk_at "ev") ea_nil)) (by show 2 ≤ 100000; decide)) fun v H1 x1 hv => ?_
    obtain ⟨u, rfl, hu⟩ := hv
    have g1' := x1 _ _ g1
    have h1' := x1 _ _ h1
    have hra' := x1 _ _ hra
    have k1' := x1 _ _ k1
    refine pr_add (hS.mono x1) hlen (ev_var rfl) (eg_wl (w := d) (i := n) (x := { loginAt d n with given := some ⟨p, d.now⟩ }) (hst.im (Im.of x1)) hnl hw.ll (ev_var rfl) (ev_var rfl) (eg_login (by walk_at "ev") (by walk_at "ev") (s := .ref mt) (by walk_at "ev") (ev_var rfl) (by walk_at "ev") (k2s.im (Im.of x1)) ⟨u, rfl, hu⟩)) (fun h => (q3 _ hR h).mono x1) fun h H2 bt hs2 => ?_
    have bt2 := (Bt.of x1).trans bt
    have hl2 : H2 l ≠ none := by obtain ⟨_, _, _, _, _, z, _⟩ := hs2; rw [z]; simp
    exact pr_noth (F := H2) (SrvAt.dom hl2 bt2) (fun v H3 x3 hv => qo _ hR h v H3 (bt2.trans (Bt.of x3)) (hs2.mono x3) hv) H2 (Ex.refl H2)
end
end Sl
/-! ## SlSrv8 -/
namespace Sl
open PySem PySem.Spec PyProof.Rows L2 Evl
open R7239g.Spec (Err Res natOrNull markPlain loginPlain sessionPlain deskPlain newDesk loginAt sessionAt isThief currentOf knownFrom pageFrom sees seesCode seesNumber signedAs numberIn rangeText rangeErrorWith loginArg placeArg sessionLives noLogin naturalOf needs andThen askArg scanArg typeArg collectArg leaveArg tickArg happen stepAnswer codeLives isNear scannedBy inTime grantLives mayTake accepted)
theorem num_le {s : String} {a b n : Nat} {x : R7239g.Spec.Plain} (h : numberIn s a b x = .ok n) : a ≤ n ∧ n ≤ b := by
  unfold numberIn at h
  split at h
  · split at h
    · rename_i hc; injection h with h; subst h; exact hc
    · cases h
  · cases h
def spMC (K : PySem.W.Frag) : Sp := fun vs H Q _ => ∃ (a : Addr) (w : SD) (p n : Nat), vs = [.ref a, .int p, .int n] ∧ Sv K H a w ∧ n < w.logins.length ∧ w.logins.length ≤ 1000 ∧ p ≤ w.rules.owners ∧ ∀ H', Ex H H' → Q (.bl (mayTake w p n)) H'
section
variable {K : PySem.W.Frag} {σ : L2.St} {F : Hp} {te tf tg to ta tb tc td : TE} {tz : TS} {D : Ends} {E : XK} {a l : Addr} {w : SD}
theorem ev_mc {p n : Nat} (hs : Sv K F a w) (hn : n < w.logins.length) (hl : w.logins.length ≤ 1000) (hp : p ≤ w.rules.owners) (ho : Ev to σ F (.ref a)) (h : Ev te σ F (.int p)) (h2 : Ev tf σ F (.int n)) : Ev (tMeth (He.ga K "Server") "may_collect" (spMC K) [] E to (tCons te (tCons tf tNil))) σ F (.bl (mayTake w p n)) := by
  have hs' := hs
  obtain ⟨dx, ra, l, us, t', h1, _⟩ := hs
  exact ev_meth ho h1 rfl (ea_cons h (ea_cons h2 ea_nil)) fun H1 e Q E q => ⟨a, w, p, n, rfl, hs'.mono e, hn, hl, hp, fun H' e' => q _ H' e' rfl⟩
theorem ev_si {b : Nat} (hs : Sv K F a w) (hw : Wd w) (hb : b ≤ w.rules.owners) (ho : Ev to σ F (.ref a)) (h : Ev te σ F (.int b)) : Ev (tMeth (He.ga K "Server") "signed_in" (spSI K) [] E to (tCons te tNil)) σ F (optV (signedAs w b)) := by
  have hs' := hs
  obtain ⟨dx, ra, l, us, t', h1, _⟩ := hs
  exact ev_meth ho h1 rfl (ea_cons h ea_nil) fun H1 e Q E q => ⟨a, w, b, rfl, hs'.mono e, hw, hb, fun H' e' => q _ H' e' rfl⟩
theorem eg_lat {t : Addr} {n : Nat} (hst : StateAt K F t w) (ho : Ev to σ F (.ref t)) (h : Ev te σ F (.int n)) : Eg (tMeth (He.ga K "State") "later" (spLat K) [] E to (tCons te tNil)) σ F fun v H => ∃ t, v = .ref t ∧ StateAt K H t { w with now := w.now + n } := fun H1 e Q q => by
  have hst' := hst
  obtain ⟨dx, lt, st, ls, ss, h1, _⟩ := hst
  refine ho H1 e _ fun H2 e2 => ⟨t, dx, _, rfl, e2 _ _ (e _ _ h1), rfl, h H2 (e.trans e2) _ fun H3 e3 => ?_⟩
  exact ⟨t, w, n, rfl, hst'.im (Im.of ((e.trans e2).trans e3)), fun t' H5 e5 h5 => q _ H5 ((e2.trans e3).trans e5) ⟨t', rfl, h5⟩⟩
end
local macro_rules
  | `(tactic| walk_at "ev") => `(tactic| first
    | exact ev_c
    | exact ev_var rfl
    | ((with_reducible refine' ev_fld ?k1 ?k2 ?k3 ?k4 ?k5); (case k1 => walk_at "ev"); (case k2 => assumption); (case k3 => exact Tx.cl (by assumption) rfl); (case k4 => exact Tx.na (by assumption) rfl); (case k5 => rfl))
    | (refine' ev_st ?k1 ?k2 ?k3; (case k1 => walk_at "ev"); (case k2 => assumption); (case k3 => assumption))
    | ((with_reducible refine' ev_ixT ?k1 ?k2 ?k3 ?k4); (case k1 => walk_at "ev"); (case k2 => walk_at "ev"); (case k3 => assumption); (case k4 => first | assumption | rfl))
    | (refine' ev_isN ?k1; (case k1 => walk_at "ev"))
    | (refine' ev_notN ?k1; (case k1 => walk_at "ev"))
    | (refine' ev_int ?k1 ?k2; (case k1 => walk_at "ev"); (case k2 => walk_at "ev"))
    | ((with_reducible refine' ev_sc ?k1 ?k2 ?k3); (case k1 => walk_at "ev"); (case k2 => walk_at "ev"); (case k3 => rfl))
    | ((with_reducible refine' ev_scn ?k1 ?k2 ?k3); (case k1 => walk_at "ev"); (case k2 => walk_at "ev"); (case k3 => rfl))
    | ((with_reducible refine' ev_notV ?k1); (case k1 => walk_at "ev"))
    | ((with_reducible refine' ev_andV ?k1 ?k2); (case k1 => walk_at "ev"); (case k2 => intro _; walk_at "ev"))
    | ((with_reducible refine' ev_orV ?k1 ?k2); (case k1 => walk_at "ev"); (case k2 => intro _; walk_at "ev"))
    | ((with_reducible refine' et_test ?k1); (case k1 => walk_at "ev"))
    | ((with_reducible refine' et_B ?k1); (case k1 => walk_at "ev"))
    | ((with_reducible refine' et_and ?k1 ?k2); (case k1 => walk_at "ev"); (case k2 => intro _; walk_at "ev"))
    | ((with_reducible refine' et_or ?k1 ?k2); (case k1 => walk_at "ev"); (case k2 => intro _; walk_at "ev"))
    | ((with_reducible refine' et_not ?k1); (case k1 => walk_at "ev"))
    | exact ea_nil
    | ((with_reducible refine' ea_cons ?k1 ?k2); (case k1 => walk_at "ev"); (case k2 => walk_at "ev")))
section
variable {P : Program} {w : World} {K : PySem.W.Frag} {mg : Str → Option Value} {base : Heap}
theorem sc_Server_may_collect : FnScope ["self", "browser", "number"] ["self", "browser", "number"] d_Server_may_collect.scope := ⟨rfl, rfl, rfl, by decide +kernel, rfl, by decide +kernel, by decide +kernel⟩
theorem ok_Server_may_collect (T : Tx w K mg) : FnOk P w K mg base CX0 5 (He.ma K (He.ga K "Server") "may_collect") (fdOf K (He.ma K (He.ga K "Server") "may_collect")) ["self", "browser", "number"] (spMC K) := by
  refine mkOk T.F_Server_may_collect ⟨rfl, rfl⟩ sc_Server_may_collect (fun vs H Q E h => ?_) (fun cdv A outer s H vs Q E hr h => ⟨_, (pss_cons (ps_if (pt_cmpR op_lt (pv 1) (pe_fld (pe_fld (pv 0) rfl) rfl) (nomark _)) (pss_one (ps_ret (pe_meth (pv 0) T.c_Server T.m_Server_is_current (ok_Server_is_current T) (hr.mono (by decide)) T.B_Server_is_current .nil pass0 (pa_cons (pv 1) (pa_cons (pv 2) pa_nil))))) pss_nil) (pss_cons (ps_if (pt_cmpR op_eq (pe_fld (pe_ix ix_tup (pe_fld (pe_meth0 (pv 0) T.c_Server T.m_Server_state (ok_Server_state T) (hr.mono (by decide)) T.B_Server_state .nil pass0) rfl) (pv 2) (fun _ _ => rfl)) rfl) (pv 1) (nomark _)) (pss_one (ps_ret pe_bl)) pss_nil) (pss_one (ps_ret (pe_and (pe_not (pe_fld (pe_fld (pv 0) rfl) rfl)) (pe_one (pe_meth (pv 0) T.c_Server T.m_Server_sees_code (ok_Server_sees_code T) (hr.mono (by decide)) T.B_Server_sees_code .nil pass0 (pa_cons (pv 1) (pa_cons (pv 2) pa_nil))))))))), ?_⟩)
  · (repeat (first | exact congrArg List.length h.1 | obtain ⟨_, h⟩ := h))
  · obtain ⟨a, d, b, n, rfl, hs, hn, hl, hb, q⟩ := h
    obtain ⟨dx, ra, l, us, t, h1, ⟨rk, dr, h2⟩, h3, ⟨ds, lt, st, ls, ss, g1, g2, g3, g4, g5⟩⟩ := id hs
    obtain ⟨v, hv, ⟨la, ldx, sc, gi, rfl, k1, k2, k3⟩⟩ := g3.get (login_at hn)
    have hat := atI_nat hv
    refine pr_when (F := H) (b := decide (b < d.rules.owners)) (et_is (et_B (ev_int (g := fun i j => .bl (decide (i < j))) (i := (b : Int)) (j := (d.rules.owners : Int)) (ev_var rfl) (by walk_at "ev"))) (decide_eq_decide.mpr (by omega))) (fun hc => ?_) (fun hc => ?_) H (Ex.refl H)
    · have hc := of_decide_eq_true hc
      refine pr_ret (v := .bl (mayTake d b n)) (ev_is (ev_ic hs hl (ev_var rfl) (ev_var rfl) (ev_var rfl)) ?_) q
      unfold mayTake isThief
      rw [show (b == d.rules.owners) = false by simp; omega, if_neg (by decide)]
    · have hc := of_decide_eq_false hc
      have e : b = d.rules.owners := by omega
      have e1 : mayTake d b n = ((loginAt d n).browser == b || (!d.rules.bound && seesCode d b n)) := by
        unfold mayTake seesCode sees isThief
        rw [show (b == d.rules.owners) = true by rw [e]; exact beq_self_eq_true _, if_pos rfl, if_pos rfl]
      rw [e1] at q
      refine pr_when (b := (loginAt d n).browser == b) (et_is (et_B (ev_sc (x := .int (loginAt d n).browser) (y := .int b) (by walk_at "ev") (ev_var rfl) rfl)) beqN) (fun hz => ?_) (fun hz => ?_)
      · rw [hz] at q
        exact pr_ret ev_c q
      · rw [hz, Bool.false_or] at q
        exact pr_ret (ev_andV (ev_notV (a := d.rules.bound) (by walk_at "ev")) fun _ => ev_spsc rfl (fun _ _ => rfl) hs hn hl (ev_var rfl) (ev_var rfl) (ev_var rfl)) q
theorem sc_Server_signed_in : FnScope ["self", "browser", "state", "session"] ["self", "browser"] d_Server_signed_in.scope := ⟨rfl, rfl, rfl, by decide +kernel, rfl, by decide +kernel, by decide +kernel⟩
theorem ok_Server_signed_in (T : Tx w K mg) : FnOk P w K mg base CX0 2 (He.ma K (He.ga K "Server") "signed_in") (fdOf K (He.ma K (He.ga K "Server") "signed_in")) ["self", "browser"] (spSI K) := by
  refine mkOk T.F_Server_signed_in ⟨rfl, rfl⟩ sc_Server_signed_in (fun vs H Q E h => ?_) (fun cdv A outer s H vs Q E hr h => ⟨_, (pss_cons (ps_set (i := 2) sc_Server_signed_in.nd rfl (Or.inl rfl) (pe_meth0 (pv 0) T.c_Server T.m_Server_state (ok_Server_state T) (hr.mono (by decide)) T.B_Server_state .nil pass0)) (pss_cons (ps_set (i := 3) sc_Server_signed_in.nd rfl (Or.inl rfl) (pe_ix ix_tup (pe_fld (pv 2) rfl) (pv 1) (fun _ _ => rfl))) (pss_cons (ps_if (pt_cmpR op_isN (pv 3) pe_non (nomark _)) (pss_one (ps_ret pe_non)) pss_nil) (pss_cons (ps_if (PW.pt (pw_and (pt_cmpR op_notN (pe_fld (pe_fld (pv 0) rfl) rfl) pe_non (nomark _)) (pw_and1 (pt_cmpR op_ge (pe_fld (pv 2) rfl) (pe_op op_add (pe_ix ix_tup (pv 3) pe_int (fun _ _ => rfl)) (pe_fld (pe_fld (pv 0) rfl) rfl)) (nomark _))))) (pss_one (ps_ret pe_non)) pss_nil) (pss_one (ps_ret (pe_ix ix_tup (pe_fld (pe_ix ix_tup (pe_fld (pv 2) rfl) (pe_ix ix_tup (pv 3) pe_int (fun _ _ => rfl)) (fun _ _ => rfl)) rfl) pe_int (fun _ _ => rfl)))))))), ?_⟩)
  · (repeat (first | exact congrArg List.length h.1 | obtain ⟨_, h⟩ := h))
  · obtain ⟨a, d, b, rfl, hs, hw, hb, q⟩ := h
    obtain ⟨dx, ra, l, us, t, h1, ⟨rk, dr, h2⟩, h3, ⟨ds, lt, st, ls, ss, g1, g2, g3, g4, g5⟩⟩ := id hs
    have hbl : b < d.sessions.length := by rw [hw.ss]; omega
    obtain ⟨v, hv, hsv⟩ := g5.get (sess_at hbl)
    have hat := atI_nat hv
    refine pr_asg (F := H) (v := .ref t) (by walk_at "ev") (pr_asg (v := v) (by walk_at "ev") ?_) H (Ex.refl H)
    cases hse : sessionAt d b with
    | none =>
      rw [hse] at hsv
      obtain rfl : v = .non := hsv
      have e1 : signedAs d b = none := by unfold signedAs; rw [hse]
      rw [e1] at q
      exact pr_when (b := true) (et_is (et_B (ev_isN (ev_var (v := .non) rfl))) rfl) (fun _ => pr_ret ev_c q) fun h => Bool.noConfusion h
    | some s =>
      rw [hse] at hsv
      obtain ⟨mt, rfl, hmt⟩ := hsv
      obtain ⟨hsl, m, hgm⟩ := hw.se b s (by rw [sess_at hbl, hse])
      obtain ⟨lv, hlv, ⟨la, ldx, sc, gi, rfl, k1, k2, k3⟩⟩ := g3.get (login_at hsl)
      have hatn := atI_nat hlv
      rw [hgm] at k3
      obtain ⟨gt, rfl, hgt⟩ := k3
      refine pr_when (b := false) (et_is (et_B (ev_isN (ev_var (v := .ref mt) rfl))) rfl) (fun h => Bool.noConfusion h) fun _ => ?_
      have e1 : signedAs d b = if sessionLives d s then some m.phone else none := by unfold signedAs; rw [hse]; show (if sessionLives d s = true then (loginAt d s.login).given.map _ else none) = _; rw [hgm]; rfl
      have hT : EvT (tAnd (tB (tOp (fun x y H Q => y = .non ∧ Q (.bl (!decide (x = .non))) H) (tFld K (tFld K (tVar 0) "rules") "session") (tC .non))) (tB (tOp (rI0 fun i j => .bl (decide (j ≤ i))) (tFld K (tVar 2) "now") (tOp (rI0 fun i j => .int (i + j)) (tOp (rIxT K) (tVar 3) (tC (.int 1))) (tFld K (tFld K (tVar 0) "rules") "session"))))) [some (.ref a), some (.int b), some (.ref t), some (.ref mt)] H (!sessionLives d s) := by
        unfold sessionLives
        cases hrs : d.rules.session with
        | none => exact et_and (a := false) (b := false) (et_is (et_B (ev_notN (x := optV d.rules.session) (by walk_at "ev"))) (by rw [hrs]; rfl)) fun h => Bool.noConfusion h
        | some sn =>
          refine et_is (et_and (a := true) (et_is (et_B (ev_notN (x := optV d.rules.session) (by walk_at "ev"))) (by rw [hrs]; rfl)) fun _ => et_B (ev_int (g := fun i j => .bl (decide (j ≤ i))) (i := (d.now : Int)) (by walk_at "ev") (ev_addN (a := s.since) (b := sn) (ev_ixT (ev_var rfl) ev_c hmt rfl) (ev_is (v := optV d.rules.session) (by walk_at "ev") (by rw [hrs]; rfl))))) ?_
          rw [Bool.true_and, Bool.eq_iff_iff]
          simp
          omega
      refine pr_when hT (fun hc => ?_) (fun hc => ?_)
      · rw [show sessionLives d s = false by simpa using hc, if_neg (by decide)] at e1
        rw [e1] at q
        exact pr_ret ev_c q
      · rw [show sessionLives d s = true by simpa using hc, if_pos rfl] at e1
        rw [e1] at q
        exact pr_ret (v := .int m.phone) (ev_ixT (xs := [.int m.phone, .int m.time]) (ev_fld (ev_ixT (v := .ref la) (by walk_at "ev") (ev_ixT (xs := [.int s.login, .int s.since]) (ev_var rfl) ev_c hmt rfl) g2 hatn) k1 T.c_Login T.n_Login_given rfl) ev_c hgt rfl) q
theorem sc_Server_leave : FnScope ["self", "arguments", "browser"] ["self", "arguments"] d_Server_leave.scope := ⟨rfl, rfl, rfl, by decide +kernel, rfl, by decide +kernel, by decide +kernel⟩
theorem ok_Server_leave (T : Tx w K mg) : FnOk P w K mg base (L2N.CX P w) 7 (He.ma K (He.ga K "Server") "leave") (fdOf K (He.ma K (He.ga K "Server") "leave")) ["self", "arguments"] (spStep K 1 fun d args => leaveArg d (argV args 0)) := by
  refine mkOkX T.F_Server_leave sc_Server_leave (fun vs H Q E h => ?_) (fun cdv A outer s H vs Q E hr h => ⟨_, (pss_cons (ps_set (i := 2) sc_Server_leave.nd rfl (Or.inl rfl) (pe_meth (pv 0) T.c_Server T.m_Server_need_hand (ok_Server_need_hand T) (hr.mono (by decide)) T.B_Server_need_hand .nil (L2N.passes_call (L2N.takes_of rfl rfl rfl rfl) (fun _ _ _ _ h => h)) (pa_cons (pe_ix ix_list (pv 1) pe_int (fun _ _ => rfl)) (pa_cons pe_str pa_nil)))) (pss_cons (ps_expr (pe_call (ok_need_range T) (hr.mono (by decide)) rfl T.g_need_range T.kp_need_range T.B_need_range .nil (L2N.passes_call (L2N.takes_of rfl rfl rfl rfl) (fun _ _ _ _ h => h)) (pa_cons (pe_cmpR op_notN (pe_meth (pv 0) T.c_Server T.m_Server_signed_in (ok_Server_signed_in T) (hr.mono (by decide)) T.B_Server_signed_in .nil pass0 (pa_cons (pv 2) pa_nil)) pe_non (nomark _)) (pa_cons pe_str pa_nil)))) (pss_cons (ps_expr (pe_meth (pv 0) T.c_Server T.m_Server_add (ok_Server_add T) (hr.mono (by decide)) T.B_Server_add .nil (L2N.passes_call (L2N.takes_of rfl rfl rfl rfl) (fun _ _ _ _ h => h)) (pa_cons (pe_meth (pe_meth0 (pv 0) T.c_Server T.m_Server_state (ok_Server_state T) (hr.mono (by decide)) T.B_Server_state .nil pass0) T.c_State T.m_State_with_session (ok_State_with_session T) (hr.mono (by decide)) T.B_State_with_session .nil pass0 (pa_cons (pv 2) (pa_cons pe_non pa_nil))) pa_nil))) (pss_one (ps_ret (pe_new0 T.noth.1 T.noth.2 (Tx.kp_Nothing T) rfl T.g_Nothing)))))), ?_⟩)
  · (repeat (first | exact congrArg List.length h.1 | obtain ⟨_, h⟩ := h))
  · obtain ⟨a, l, al, r, d, ds, us, args, rfl, hS, hr, hw, hlen, hal, hvs, hn, qe, q3, qo⟩ := h
    dsimp only at qe q3 qo
    have hs := hS.sv hr
    obtain ⟨dx, ra, vs, h1, h2, h3, ws, t, rfl, hst, h5⟩ := id hS
    obtain ⟨ds', lt, st, ls, ss, g1, g2, g3, g4, g5⟩ := id hst
    obtain ⟨v0, hv0, hx0⟩ := hvs.get (i := 0) (by omega)
    have hat0 := atI_nat hv0
    have arg0 : ∀ σ : L2.St, σ[1]? = some (some (.ref al)) → Ev (tOp (rIxL K) (tVar 1) (tC (.int 0))) σ H v0 := fun σ e => ev_arg (ev_var e) hal hat0
    cases hp : placeArg "browser" d (argV args 0) with
    | error e => exact pr_asgE (F := H) (nh_er hs (ev_var rfl) (arg0 _ rfl) hx0 (.inl rfl) hp (qe e (by unfold leaveArg; rw [hp]; rfl))) H (Ex.refl H)
    | ok b =>
    have hR : leaveArg d (argV args 0) = needs (signedAs d b).isSome "browser is not signed in" (.ok (.leave b)) := by unfold leaveArg; rw [hp]; rfl
    have hb : b ≤ d.rules.owners := (num_le hp).2
    have hbs : b < d.sessions.length := by rw [hw.ss]; omega
    refine pr_asg (F := H) (nh_ok hs (ev_var rfl) (arg0 _ rfl) hx0 (.inl rfl) hp) ?_ H (Ex.refl H)
    refine pr_need (b := (signedAs d b).isSome) (m := "browser is not signed in") (e := rangeErrorWith "browser is not signed in") (ea_cons (ev_is (ev_notN (x := optV (signedAs d b)) (ev_si hs hw hb (ev_var rfl) (ev_var rfl))) (by rw [opt_yes])) (ea_cons ev_c ea_nil)) (fun _ => ⟨by decide +kernel, rfl⟩) (fun hb1 => ?_) fun hb => qe _ (by rw [hR, needs_f hb])
    rw [needs_t hb1] at hR
    have h8 : d.sessions.length ≤ 1000 := by
      rw [hw.ss]
      obtain ⟨rk, _⟩ := h2
      have := rk.o2
      rw [hr]; omega
    refine pr_add hS hlen (ev_var rfl) (eg_ws (w := d) (i := b) (v := .non) (x := none) (eg_ev (v := .ref t) (by walk_at "ev") fun H' e => ⟨t, rfl, hst.im (Im.of e)⟩) hbs h8 (ev_var rfl) (eg_ev (v := .non) ev_c fun H' e => rfl)) (fun h => q3 _ hR h) fun h H2 bt hs2 => ?_
    have hl2 : H2 l ≠ none := by obtain ⟨_, _, _, _, _, z, _⟩ := hs2; rw [z]; simp
    exact pr_noth (F := H2) (SrvAt.dom hl2 bt) (fun v H3 x3 hv => qo _ hR h v H3 (bt.trans (Bt.of x3)) (hs2.mono x3) hv) H2 (Ex.refl H2)
theorem sc_Server_tick : FnScope ["self", "arguments", "ticks"] ["self", "arguments"] d_Server_tick.scope := ⟨rfl, rfl, rfl, by decide +kernel, rfl, by decide +kernel, by decide +kernel⟩
theorem ok_Server_tick (T : Tx w K mg) : FnOk P w K mg base (L2N.CX P w) 6 (He.ma K (He.ga K "Server") "tick") (fdOf K (He.ma K (He.ga K "Server") "tick")) ["self", "arguments"] (spStep K 1 fun d args => tickArg (argV args 0)) := by
  refine mkOkX T.F_Server_tick sc_Server_tick (fun vs H Q E h => ?_) (fun cdv A outer s H vs Q E hr h => ⟨_, (pss_cons (ps_set (i := 2) sc_Server_tick.nd rfl (Or.inl rfl) (pe_call (ok_need_within T) (hr.mono (by decide)) rfl T.g_need_within T.kp_need_within T.B_need_within .nil (L2N.passes_call (L2N.takes_of rfl rfl rfl rfl) (fun _ _ _ _ h => h)) (pa_cons (pe_ix ix_list (pv 1) pe_int (fun _ _ => rfl)) (pa_cons pe_str (pa_cons pe_int (pa_cons (pe_gc rfl T.i_MOST_TICKS_servers) pa_nil)))))) (pss_cons (ps_expr (pe_meth (pv 0) T.c_Server T.m_Server_add (ok_Server_add T) (hr.mono (by decide)) T.B_Server_add .nil (L2N.passes_call (L2N.takes_of rfl rfl rfl rfl) (fun _ _ _ _ h => h)) (pa_cons (pe_meth (pe_meth0 (pv 0) T.c_Server T.m_Server_state (ok_Server_state T) (hr.mono (by decide)) T.B_Server_state .nil pass0) T.c_State T.m_State_later (ok_State_later T) (hr.mono (by decide)) T.B_State_later .nil pass0 (pa_cons (pv 2) pa_nil)) pa_nil))) (pss_one (ps_ret (pe_new0 T.noth.1 T.noth.2 (Tx.kp_Nothing T) rfl T.g_Nothing))))), ?_⟩)
  · (repeat (first | exact congrArg List.length h.1 | obtain ⟨_, h⟩ := h))
  · obtain ⟨a, l, al, r, d, ds, us, args, rfl, hS, hr, hw, hlen, hal, hvs, hn, qe, q3, qo⟩ := h
    dsimp only at qe q3 qo
    have hs := hS.sv hr
    obtain ⟨dx, ra, vs, h1, h2, h3, ws, t, rfl, hst, h5⟩ := id hS
    obtain ⟨ds', lt, st, ls, ss, g1, g2, g3, g4, g5⟩ := id hst
    obtain ⟨v0, hv0, hx0⟩ := hvs.get (i := 0) (by omega)
    have hat0 := atI_nat hv0
    have arg0 : EgV K (tOp (rIxL K) (tVar 1) (tC (.int 0))) [some (.ref a), some (.ref al), none] H (args.getD 0 .nothing) := eg_ev (ev_arg (ev_var rfl) hal hat0) fun H' e => hx0.mono e
    cases hp : numberIn "ticks" 1 100 (argV args 0) with
    | error e => exact pr_asgE (F := H) (nw_er arg0 ev_c ev_c ev_c (by decide) (by decide +kernel) hp (qe e (by unfold tickArg; rw [show R7239g.Spec.ticksMost = 100 from rfl, hp]; rfl))) H (Ex.refl H)
    | ok n =>
    have hR : tickArg (argV args 0) = .ok (.tick n) := by unfold tickArg; rw [show R7239g.Spec.ticksMost = 100 from rfl, hp]; rfl
    refine pr_asg (F := H) (nw_ok arg0 ev_c ev_c ev_c (by decide) (by decide +kernel) hp) ?_ H (Ex.refl H)
    refine pr_add hS hlen (ev_var rfl) (eg_lat (w := d) (n := n) hst (by walk_at "ev") (ev_var rfl)) (fun h => q3 _ hR h) fun h H2 bt hs2 => ?_
    have hl2 : H2 l ≠ none := by obtain ⟨_, _, _, _, _, z, _⟩ := hs2; rw [z]; simp
    exact pr_noth (F := H2) (SrvAt.dom hl2 bt) (fun v H3 x3 hv => qo _ hR h v H3 (bt.trans (Bt.of x3)) (hs2.mono x3) hv) H2 (Ex.refl H2)
end
end Sl
/-! ## SlSrv9 -/
namespace Sl
open PySem PySem.Spec PyProof.Rows L2 Evl
open R7239g.Spec (Err Res natOrNull markPlain loginPlain sessionPlain deskPlain newDesk loginAt sessionAt isThief currentOf knownFrom pageFrom sees seesCode seesNumber signedAs numberIn rangeText rangeErrorWith loginArg placeArg sessionLives noLogin naturalOf needs andThen askArg scanArg typeArg collectArg leaveArg tickArg happen stepAnswer codeLives isNear scannedBy inTime grantLives mayTake accepted)
local macro_rules
  | `(tactic| walk_at "ev") => `(tactic| first
    | exact ev_c
    | exact ev_var rfl
    | ((with_reducible refine' ev_fld ?k1 ?k2 ?k3 ?k4 ?k5); (case k1 => walk_at "ev"); (case k2 => assumption); (case k3 => exact Tx.cl (by assumption) rfl); (case k4 => exact Tx.na (by assumption) rfl); (case k5 => rfl))
    | (refine' ev_st ?k1 ?k2 ?k3; (case k1 => walk_at "ev"); (case k2 => assumption); (case k3 => assumption))
    | ((with_reducible refine' ev_ixT ?k1 ?k2 ?k3 ?k4); (case k1 => walk_at "ev"); (case k2 => walk_at "ev"); (case k3 => assumption); (case k4 => first | assumption | rfl))
    | (refine' ev_isN ?k1; (case k1 => walk_at "ev"))
    | (refine' ev_notN ?k1; (case k1 => walk_at "ev"))
    | (refine' ev_int ?k1 ?k2; (case k1 => walk_at "ev"); (case k2 => walk_at "ev"))
    | ((with_reducible refine' ev_sc ?k1 ?k2 ?k3); (case k1 => walk_at "ev"); (case k2 => walk_at "ev"); (case k3 => rfl))
    | ((with_reducible refine' ev_scn ?k1 ?k2 ?k3); (case k1 => walk_at "ev"); (case k2 => walk_at "ev"); (case k3 => rfl))
    | ((with_reducible refine' ev_notV ?k1); (case k1 => walk_at "ev"))
    | ((with_reducible refine' ev_andV ?k1 ?k2); (case k1 => walk_at "ev"); (case k2 => intro _; walk_at "ev"))
    | ((with_reducible refine' ev_orV ?k1 ?k2); (case k1 => walk_at "ev"); (case k2 => intro _; walk_at "ev"))
    | ((with_reducible refine' et_test ?k1); (case k1 => walk_at "ev"))
    | ((with_reducible refine' et_B ?k1); (case k1 => walk_at "ev"))
    | ((with_reducible refine' et_and ?k1 ?k2); (case k1 => walk_at "ev"); (case k2 => intro _; walk_at "ev"))
    | ((with_reducible refine' et_or ?k1 ?k2); (case k1 => walk_at "ev"); (case k2 => intro _; walk_at "ev"))
    | ((with_reducible refine' et_not ?k1); (case k1 => walk_at "ev"))
    | exact ea_nil
    | ((with_reducible refine' ea_cons ?k1 ?k2); (case k1 => walk_at "ev"); (case k2 => walk_at "ev")))
section
variable {P : Program} {w : World} {K : PySem.W.Frag} {mg : Str → Option Value} {base : Heap}
theorem sc_Server_collect : FnScope ["self", "arguments", "browser", "number", "state", "rules", "login", "is_declined", "later"] ["self", "arguments"] d_Server_collect.scope := ⟨rfl, rfl, rfl, by decide +kernel, rfl, by decide +kernel, by decide +kernel⟩
theorem ok_Server_collect (T : Tx w K mg) : FnOk P w K mg base (L2N.CX P w) 7 (He.ma K (He.ga K "Server") "collect") (fdOf K (He.ma K (He.ga K "Server") "collect")) ["self", "arguments"] (spStep K 2 fun d args => collectArg d (argV args 0) (argV args 1)) := by
  refine mkOkX T.F_Server_collect sc_Server_collect (fun vs H Q E h => ?_) (fun cdv A outer s H vs Q E hr h => ⟨_, (pss_cons (ps_par (i := 2) (j := 3) rfl sc_Server_collect.nd rfl rfl (by decide) rfl rfl (pa_cons (pe_meth (pv 0) T.c_Server T.m_Server_need_hand (ok_Server_need_hand T) (hr.mono (by decide)) T.B_Server_need_hand .nil (L2N.passes_call (L2N.takes_of rfl rfl rfl rfl) (fun _ _ _ _ h => h)) (pa_cons (pe_ix ix_list (pv 1) pe_int (fun _ _ => rfl)) (pa_cons pe_str pa_nil))) (pa_cons (pe_meth (pv 0) T.c_Server T.m_Server_need_login (ok_Server_need_login T) (hr.mono (by decide)) T.B_Server_need_login .nil (L2N.passes_call (L2N.takes_of rfl rfl rfl rfl) (fun _ _ _ _ h => h)) (pa_cons (pe_ix ix_list (pv 1) pe_int (fun _ _ => rfl)) pa_nil)) pa_nil)) (by rfl)) (pss_cons (ps_par (i := 4) (j := 5) rfl sc_Server_collect.nd rfl rfl (by decide) rfl rfl (pa_cons (pe_meth0 (pv 0) T.c_Server T.m_Server_state (ok_Server_state T) (hr.mono (by decide)) T.B_Server_state .nil pass0) (pa_cons (pe_fld (pv 0) rfl) pa_nil)) (by rfl)) (pss_cons (ps_set (i := 6) sc_Server_collect.nd rfl (Or.inl rfl) (pe_ix ix_tup (pe_fld (pv 4) rfl) (pv 3) (fun _ _ => rfl))) (pss_cons (ps_expr (pe_call (ok_need_range T) (hr.mono (by decide)) rfl T.g_need_range T.kp_need_range T.B_need_range .nil (L2N.passes_call (L2N.takes_of rfl rfl rfl rfl) (fun _ _ _ _ h => h)) (pa_cons (pe_cmpR op_notN (pe_fld (pv 6) rfl) pe_non (nomark _)) (pa_cons pe_str pa_nil)))) (pss_cons (ps_expr (pe_call (ok_need_range T) (hr.mono (by decide)) rfl T.g_need_range T.kp_need_range T.B_need_range .nil (L2N.passes_call (L2N.takes_of rfl rfl rfl rfl) (fun _ _ _ _ h => h)) (pa_cons (pe_cmpR op_lt (pe_fld (pv 4) rfl) (pe_op op_add (pe_ix ix_tup (pe_fld (pv 6) rfl) pe_int (fun _ _ => rfl)) (pe_fld (pv 5) rfl)) (nomark _)) (pa_cons pe_str pa_nil)))) (pss_cons (ps_expr (pe_call (ok_need_range T) (hr.mono (by decide)) rfl T.g_need_range T.kp_need_range T.B_need_range .nil (L2N.passes_call (L2N.takes_of rfl rfl rfl rfl) (fun _ _ _ _ h => h)) (pa_cons (pe_or (pe_not (pe_fld (pv 5) rfl)) (pe_one (pe_not (pe_fld (pv 6) rfl)))) (pa_cons pe_str pa_nil)))) (pss_cons (ps_expr (pe_call (ok_need_range T) (hr.mono (by decide)) rfl T.g_need_range T.kp_need_range T.B_need_range .nil (L2N.passes_call (L2N.takes_of rfl rfl rfl rfl) (fun _ _ _ _ h => h)) (pa_cons (pe_meth (pv 0) T.c_Server T.m_Server_may_collect (ok_Server_may_collect T) (hr.mono (by decide)) T.B_Server_may_collect .nil pass0 (pa_cons (pv 2) (pa_cons (pv 3) pa_nil))) (pa_cons pe_str pa_nil)))) (pss_cons (ps_set (i := 7) sc_Server_collect.nd rfl (Or.inl rfl) (pe_and (pe_cmpR op_lt (pv 2) (pe_fld (pv 5) rfl) (nomark _)) (pe_and (pe_fld (pv 5) rfl) (pe_one (pe_cmpR op_ne (pe_ix ix_tup (pe_fld (pv 6) rfl) pe_int (fun _ _ => rfl)) (pv 2) (nomark _)))))) (pss_cons (ps_expr (pe_call (ok_need_range T) (hr.mono (by decide)) rfl T.g_need_range T.kp_need_range T.B_need_range .nil (L2N.passes_call (L2N.takes_of rfl rfl rfl rfl) (fun _ _ _ _ h => h)) (pa_cons (pe_not (pv 7)) (pa_cons pe_str pa_nil)))) (pss_cons (ps_set (i := 8) sc_Server_collect.nd rfl (Or.inl rfl) (pe_meth (pv 4) T.c_State T.m_State_with_login (ok_State_with_login T) (hr.mono (by decide)) T.B_State_with_login .nil pass0 (pa_cons (pv 3) (pa_cons (pe_make T.k_Login (ok_Login_init T) (hr.mono (by decide)) rfl T.g_Login T.B_Login_init .nil pass0 (pa_cons (pe_fld (pv 6) rfl) (pa_cons (pe_fld (pv 6) rfl) (pa_cons (pe_fld (pv 6) rfl) (pa_cons (pe_fld (pv 6) rfl) (pa_cons pe_bl pa_nil)))))) pa_nil)))) (pss_cons (ps_expr (pe_meth (pv 0) T.c_Server T.m_Server_add (ok_Server_add T) (hr.mono (by decide)) T.B_Server_add .nil (L2N.passes_call (L2N.takes_of rfl rfl rfl rfl) (fun _ _ _ _ h => h)) (pa_cons (pe_meth (pv 8) T.c_State T.m_State_with_session (ok_State_with_session T) (hr.mono (by decide)) T.B_State_with_session .nil pass0 (pa_cons (pv 2) (pa_cons (pe_tup (pa_cons (pv 3) (pa_cons (pe_fld (pv 4) rfl) pa_nil))) pa_nil))) pa_nil))) (pss_one (ps_ret (pe_new0 T.noth.1 T.noth.2 (Tx.kp_Nothing T) rfl T.g_Nothing)))))))))))))), ?_⟩)
  · (repeat (first | exact congrArg List.length h.1 | obtain ⟨_, h⟩ := h))
  · obtain ⟨a, l, al, r, d, ds, us, args, rfl, hS, hr, hw, hlen, hal, hvs, hn, qe, q3, qo⟩ := h
    dsimp only at qe q3 qo
    have hs := hS.sv hr
    obtain ⟨dx, ra, vs, h1, h2, h3, ws, t, rfl, hst, h5⟩ := id hS
    obtain ⟨rk, dr, hra⟩ := h2
    obtain ⟨ds', lt, st, ls, ss, g1, g2, g3, g4, g5⟩ := id hst
    obtain ⟨v0, hv0, hx0⟩ := hvs.get (i := 0) (by omega)
    have hat0 := atI_nat hv0
    obtain ⟨v1, hv1, hx1⟩ := hvs.get (i := 1) (by omega)
    have hat1 := atI_nat hv1
    subst hr
    have arg0 : ∀ σ : L2.St, σ[1]? = some (some (.ref al)) → Ev (tOp (rIxL K) (tVar 1) (tC (.int 0))) σ H v0 := fun σ e => ev_arg (ev_var e) hal hat0
    have arg1 : ∀ σ : L2.St, σ[1]? = some (some (.ref al)) → Ev (tOp (rIxL K) (tVar 1) (tC (.int 1))) σ H v1 := fun σ e => ev_arg (ev_var e) hal hat1
    cases hp : placeArg "browser" d (argV args 0) with
    | error e => exact pr_parE (F := H) (nh_er hs (ev_var rfl) (arg0 _ rfl) hx0 (.inl rfl) hp (qe e (by unfold collectArg; rw [hp]; rfl))) H (Ex.refl H)
    | ok b =>
    cases hlg : loginArg d (argV args 1) with
    | error e => exact pr_parE2 (F := H) (nh_ok hs (ev_var rfl) (arg0 _ rfl) hx0 (.inl rfl) hp) (nl_er hs hw.ll (ev_var rfl) (arg1 _ rfl) hx1 hlg (qe e (by unfold collectArg; rw [hp, andThen_ok, hlg]; rfl))) H (Ex.refl H)
    | ok n =>
    have hR : collectArg d (argV args 0) (argV args 1) = needs (loginAt d n).given.isSome "login was not given" (needs (grantLives d n) "login has expired" (needs (!d.rules.once || !(loginAt d n).taken) "login was collected already" (needs (mayTake d b n) "login cannot be collected by this browser" (needs (accepted d b n) "sign-in was declined" (.ok (.collect b n)))))) := by unfold collectArg; rw [hp, andThen_ok, hlg]; rfl
    have hnl : n < d.logins.length := log_lt hlg
    have hb : b ≤ d.rules.owners := (num_le hp).2
    have hbs : b < d.sessions.length := by rw [hw.ss]; omega
    have h8 : d.sessions.length ≤ 1000 := by rw [hw.ss]; have := rk.o2; omega
    obtain ⟨lv, hlv, ⟨la, ldx, sc, gi, rfl, k1, k2, k3⟩⟩ := g3.get (login_at hnl)
    have hatn := atI_nat hlv
    refine pr_par (F := H) (ea_cons (nh_ok hs (ev_var rfl) (arg0 _ rfl) hx0 (.inl rfl) hp) (ea_cons (nl_ok hs hw.ll (ev_var rfl) (arg1 _ rfl) hx1 hlg) ea_nil)) (pr_par (ea_cons (ev_st (ev_var rfl) h1 h3) (ea_cons (ev_fld (v := .ref ra) (ev_var rfl) h1 T.c_Server T.n_Server_rules rfl) ea_nil)) ?_) H (Ex.refl H)
    refine pr_asg (v := .ref la) (ev_ixT (xs := ls) (ev_fld (v := .ref lt) (ev_var rfl) g1 T.c_State T.n_State_logins rfl) (ev_var rfl) g2 hatn) ?_
    refine pr_need (b := (loginAt d n).given.isSome) (m := "login was not given") (e := rangeErrorWith "login was not given") (ea_cons (ev_is (ev_notN (x := gi) (by walk_at "ev")) (by rw [mark_yes k3])) (ea_cons ev_c ea_nil)) (fun _ => ⟨by decide +kernel, rfl⟩) (fun hb1 => ?_) fun hb => qe _ (by rw [hR, needs_f hb])
    rw [needs_t hb1] at hR
    obtain ⟨m, hgm⟩ := Option.isSome_iff_exists.mp hb1
    have k3s := k3
    rw [hgm] at k3
    obtain ⟨gt, rfl, hgt⟩ := k3
    refine pr_need (b := grantLives d n) (m := "login has expired") (e := rangeErrorWith "login has expired") (ea_cons ?_ (ea_cons ev_c ea_nil)) (fun _ => ⟨by decide +kernel, rfl⟩) (fun hb2 => ?_) fun hb => qe _ (by rw [hR, needs_f hb])
    · have e1 : grantLives d n = decide (d.now < m.time + d.rules.grant) := by unfold grantLives; rw [hgm]
      rw [e1]
      refine ev_is (ev_int (g := fun i j => .bl (decide (i < j))) (i := (d.now : Int)) (by walk_at "ev") (ev_addN (a := m.time) (b := d.rules.grant) (ev_ixT (by walk_at "ev") ev_c hgt rfl) (by walk_at "ev"))) ?_
      congr 1
      exact decide_eq_decide.mpr (by omega)
    rw [needs_t hb2] at hR
    refine pr_need (b := !d.rules.once || !(loginAt d n).taken) (m := "login was collected already") (e := rangeErrorWith "login was collected already") (ea_cons (ev_orV (ev_notV (a := d.rules.once) (by walk_at "ev")) fun _ => ev_notV (a := (loginAt d n).taken) (by walk_at "ev")) (ea_cons ev_c ea_nil)) (fun _ => ⟨by decide +kernel, rfl⟩) (fun hb3 => ?_) fun hb => qe _ (by rw [hR, needs_f hb])
    rw [needs_t hb3] at hR
    refine pr_need (b := mayTake d b n) (m := "login cannot be collected by this browser") (e := rangeErrorWith "login cannot be collected by this browser") (ea_cons (ev_mc hs hnl hw.ll hb (ev_var rfl) (ev_var rfl) (ev_var rfl)) (ea_cons ev_c ea_nil)) (fun _ => ⟨by decide +kernel, rfl⟩) (fun hb4 => ?_) fun hb => qe _ (by rw [hR, needs_f hb])
    rw [needs_t hb4] at hR
    have e2 : (decide (b < d.rules.owners) && (d.rules.hello && !(m.phone == b))) = !accepted d b n := by
      unfold accepted isThief
      rw [hgm]
      rcases Nat.lt_or_ge b d.rules.owners with h | h
      · rw [decide_eq_true h, show (b == d.rules.owners) = false by simp; omega]
        show (true && (d.rules.hello && !(m.phone == b))) = !(false || !d.rules.hello || (m.phone == b))
        cases d.rules.hello <;> cases (m.phone == b) <;> rfl
      · rw [decide_eq_false (by omega), show (b == d.rules.owners) = true by simp; omega]
        rfl
    refine pr_asg (v := .bl (!accepted d b n)) (ev_is (ev_andV (a := decide (b < d.rules.owners)) (b := d.rules.hello && !(m.phone == b)) (ev_is (ev_int (g := fun i j => .bl (decide (i < j))) (i := (b : Int)) (j := (d.rules.owners : Int)) (ev_var rfl) (by walk_at "ev")) (by congr 1; exact decide_eq_decide.mpr (by omega))) fun _ => ev_andV (a := d.rules.hello) (b := !(m.phone == b)) (by walk_at "ev") fun _ => ev_is (ev_scn (x := .int m.phone) (y := .int b) (ev_ixT (by walk_at "ev") ev_c hgt rfl) (ev_var rfl) rfl) (by rw [beqN])) (by rw [e2])) ?_
    refine pr_need (b := accepted d b n) (m := "sign-in was declined") (e := rangeErrorWith "sign-in was declined") (ea_cons (ev_is (ev_notV (a := !accepted d b n) (ev_var rfl)) (by rw [Bool.not_not])) (ea_cons ev_c ea_nil)) (fun _ => ⟨by decide +kernel, rfl⟩) (fun hb5 => ?_) fun hb => qe _ (by rw [hR, needs_f hb])
    rw [needs_t hb5] at hR
    refine pr_asgG (eg_wl (w := d) (i := n) (x := { loginAt d n with taken := true }) hst hnl hw.ll (ev_var rfl) (ev_var rfl) (eg_login (by walk_at "ev") (by walk_at "ev") (s := sc) (by walk_at "ev") (g := .ref gt) (by walk_at "ev") ev_c k2 k3s)) fun v H1 x1 hv => ?_
    obtain ⟨u, rfl, hu⟩ := hv
    have g1' := x1 _ _ g1
    refine pr_add (hS.mono x1) hlen (ev_var rfl) (eg_ws (w := { d with logins := d.logins.set n { loginAt d n with taken := true } }) (i := b) (v := .non) (x := some ⟨n, d.now⟩) (eg_ev (v := .ref u) (ev_var rfl) fun H' e => ⟨u, rfl, hu.im (Im.of e)⟩) hbs h8 (ev_var rfl) (et_tup (xs := [.int n, .int d.now]) (ea_cons (ev_var rfl) (ea_cons (by walk_at "ev") ea_nil)) (by show 2 ≤ 100000; decide))) (fun h => (q3 _ hR h).mono x1) fun h H2 bt hs2 => ?_
    have bt2 := (Bt.of x1).trans bt
    have hl2 : H2 l ≠ none := by obtain ⟨_, _, _, _, _, z, _⟩ := hs2; rw [z]; simp
    exact pr_noth (F := H2) (SrvAt.dom hl2 bt2) (fun v H3 x3 hv => qo _ hR h v H3 (bt2.trans (Bt.of x3)) (hs2.mono x3) hv) H2 (Ex.refl H2)
end
end Sl
/-! ## SlSrvA -/
namespace Sl
open PySem PySem.Spec PyProof.Rows L2 Evl
open R7239g.Spec (Err Res natOrNull markPlain loginPlain sessionPlain deskPlain newDesk loginAt sessionAt isThief currentOf knownFrom pageFrom sees seesCode seesNumber signedAs numberIn rangeText rangeErrorWith loginArg placeArg sessionLives noLogin naturalOf needs andThen askArg scanArg typeArg collectArg leaveArg tickArg happen stepAnswer codeLives isNear scannedBy inTime grantLives mayTake accepted)
/-- a step by its word -/
def stepF (s : String) (d : SD) (args : List Val) : Res Evt :=
  if s = "ask" then askArg d (argV args 0) else if s = "scan" then scanArg d (argV args 0) (argV args 1) else if s = "type" then typeArg d (argV args 0) (argV args 1) else if s = "collect" then collectArg d (argV args 0) (argV args 1) else if s = "leave" then leaveArg d (argV args 0) else tickArg (argV args 0)
def sizeS (s : String) : Nat := if s = "scan" ∨ s = "type" ∨ s = "collect" then 2 else 1
def wordS (s : String) : Prop := s = "ask" ∨ s = "scan" ∨ s = "type" ∨ s = "collect" ∨ s = "leave" ∨ s = "tick"
def spStp (K : PySem.W.Frag) : Sp := fun vs H Q E => ∃ (a l al : Addr) (r : SR) (d : SD) (ds : List SD) (us : List V) (args : List Val) (s : String), vs = [.ref a, .str (Str.ofString s), .ref al] ∧ wordS s ∧ SrvAt K H a l r (d :: ds) ∧ d.rules = r ∧ Wd d ∧ (d :: ds).length ≤ 1000 ∧ H al = some (.lst us) ∧ ValsAt K H us args ∧ sizeS s ≤ args.length ∧ StepPost K H a l r d ds (stepF s d args) Q E
section
variable {K : PySem.W.Frag} {σ : L2.St} {F : Hp} {te tf tg to ta tb tc td : TE} {tz : TS} {D : Ends} {E : XK} {a l al : Addr} {d : SD} {r : SR} {ds : List SD} {us : List V} {args : List Val} {m : Str} {n : Nat} {f : SD → List Val → Res Evt}
theorem StepPost.mono {H H1 : Hp} {res : Res Evt} {Q : VK} (x : Ex H H1) (hf : Dom H H1) (h : StepPost K H a l r d ds res Q E) : StepPost K H1 a l r d ds res Q E :=
  ⟨fun e he => (h.1 e he).mono x, fun ev he h3 => (h.2.1 ev he h3).mono x, fun ev he h3 v H' bt hs hv => h.2.2 ev he h3 v H' ((Bt.of x).trans bt) hs (hv.mono (nw_mono hf (Ex.refl H')))⟩
theorem ee_step {Q : VK} (hm : ∀ x y : Addr, (svF x y).lookup m = none) (hS : SrvAt K F a l r (d :: ds)) (hr : d.rules = r) (hw : Wd d) (hl : (d :: ds).length ≤ 1000) (hal : F al = some (.lst us)) (hv : ValsAt K F us args) (hn : n ≤ args.length) (post : StepPost K F a l r d ds (f d args) Q E)
    (ho : Ev to σ F (.ref a)) (h : Ev te σ F (.ref al)) : ∀ H, Ex F H → tMeth (He.ga K "Server") m (spStep K n f) [] E to (tCons te tNil) σ H Q := fun H x => by
  have hS' := hS
  obtain ⟨dx, ra, vs, h1, _⟩ := hS
  refine ho H x _ fun H2 x2 => ⟨a, dx, _, rfl, x2 _ _ (x _ _ h1), hm _ _, h H2 (x.trans x2) _ fun H3 x3 => ?_⟩
  have y := x.trans (x2.trans x3)
  exact ⟨a, l, al, r, d, ds, us, args, rfl, hS'.mono y, hr, hw, hl, y _ _ hal, hv.mono y, hn, post.mono y (Dom.of y)⟩
theorem pr_step {m : Str} (hm : ∀ x y : Addr, (svF x y).lookup m = none) (hS : SrvAt K F a l r (d :: ds)) (hr : d.rules = r) (hw : Wd d) (hl : (d :: ds).length ≤ 1000) (hal : F al = some (.lst us)) (hv : ValsAt K F us args) (hn : n ≤ args.length) (post : StepPost K F a l r d ds (f d args) D.rt E)
    (ho : Ev to σ F (.ref a)) (h : Ev te σ F (.ref al)) : Pr (tRet (tMeth (He.ga K "Server") m (spStep K n f) [] E to (tCons te tNil))) D σ F := fun H x => ee_step hm hS hr hw hl hal hv hn post ho h H x
theorem pr_retIfT {t : TT} (h : EvT t σ F true) (k : ∀ H, Ex F H → ta σ H D.rt) : Pr (tRet (tIf t ta tb)) D σ F := fun H x => h H x _ fun H1 x1 => by
  rw [if_pos rfl]; exact k H1 (x.trans x1)
theorem pr_retIfF {t : TT} (h : EvT t σ F false) (k : ∀ H, Ex F H → tb σ H D.rt) : Pr (tRet (tIf t ta tb)) D σ F := fun H x => h H x _ fun H1 x1 => by
  rw [if_neg (by decide)]; exact k H1 (x.trans x1)
end
local macro_rules
  | `(tactic| walk_at "ev") => `(tactic| first
    | exact ev_c
    | exact ev_var rfl
    | ((with_reducible refine' ev_fld ?k1 ?k2 ?k3 ?k4 ?k5); (case k1 => walk_at "ev"); (case k2 => assumption); (case k3 => exact Tx.cl (by assumption) rfl); (case k4 => exact Tx.na (by assumption) rfl); (case k5 => rfl))
    | (refine' ev_st ?k1 ?k2 ?k3; (case k1 => walk_at "ev"); (case k2 => assumption); (case k3 => assumption))
    | ((with_reducible refine' ev_ixT ?k1 ?k2 ?k3 ?k4); (case k1 => walk_at "ev"); (case k2 => walk_at "ev"); (case k3 => assumption); (case k4 => first | assumption | rfl))
    | (refine' ev_isN ?k1; (case k1 => walk_at "ev"))
    | (refine' ev_notN ?k1; (case k1 => walk_at "ev"))
    | (refine' ev_int ?k1 ?k2; (case k1 => walk_at "ev"); (case k2 => walk_at "ev"))
    | ((with_reducible refine' ev_sc ?k1 ?k2 ?k3); (case k1 => walk_at "ev"); (case k2 => walk_at "ev"); (case k3 => rfl))
    | ((with_reducible refine' ev_scn ?k1 ?k2 ?k3); (case k1 => walk_at "ev"); (case k2 => walk_at "ev"); (case k3 => rfl))
    | ((with_reducible refine' ev_notV ?k1); (case k1 => walk_at "ev"))
    | ((with_reducible refine' ev_andV ?k1 ?k2); (case k1 => walk_at "ev"); (case k2 => intro _; walk_at "ev"))
    | ((with_reducible refine' ev_orV ?k1 ?k2); (case k1 => walk_at "ev"); (case k2 => intro _; walk_at "ev"))
    | ((with_reducible refine' et_test ?k1); (case k1 => walk_at "ev"))
    | ((with_reducible refine' et_B ?k1); (case k1 => walk_at "ev"))
    | ((with_reducible refine' et_and ?k1 ?k2); (case k1 => walk_at "ev"); (case k2 => intro _; walk_at "ev"))
    | ((with_reducible refine' et_or ?k1 ?k2); (case k1 => walk_at "ev"); (case k2 => intro _; walk_at "ev"))
    | ((with_reducible refine' et_not ?k1); (case k1 => walk_at "ev"))
    | exact ea_nil
    | ((with_reducible refine' ea_cons ?k1 ?k2); (case k1 => walk_at "ev"); (case k2 => walk_at "ev")))
section
variable {P : Program} {w : World} {K : PySem.W.Frag} {mg : Str → Option Value} {base : Heap}
theorem sc_Server_step : FnScope ["self", "word", "arguments"] ["self", "word", "arguments"] d_Server_step.scope := ⟨rfl, rfl, rfl, by decide +kernel, rfl, by decide +kernel, by decide +kernel⟩
theorem ok_Server_step (T : Tx w K mg) : FnOk P w K mg base (L2N.CX P w) 8 (He.ma K (He.ga K "Server") "step") (fdOf K (He.ma K (He.ga K "Server") "step")) ["self", "word", "arguments"] (spStp K) := by
  refine mkOkX T.F_Server_step sc_Server_step (fun vs H Q E h => ?_) (fun cdv A outer s H vs Q E hr h => ⟨_, (pss_cons (ps_if (pt_cmpR op_eq (pv 1) pe_str (nomark _)) (pss_one (ps_ret (pe_meth (pv 0) T.c_Server T.m_Server_ask (ok_Server_ask T) (hr.mono (by decide)) T.B_Server_ask .nil (L2N.passes_call (L2N.takes_of rfl rfl rfl rfl) (fun _ _ _ _ h => h)) (pa_cons (pv 2) pa_nil)))) pss_nil) (pss_cons (ps_if (pt_cmpR op_eq (pv 1) pe_str (nomark _)) (pss_one (ps_ret (pe_meth (pv 0) T.c_Server T.m_Server_scan_code (ok_Server_scan_code T) (hr.mono (by decide)) T.B_Server_scan_code .nil (L2N.passes_call (L2N.takes_of rfl rfl rfl rfl) (fun _ _ _ _ h => h)) (pa_cons (pv 2) pa_nil)))) pss_nil) (pss_cons (ps_if (pt_cmpR op_eq (pv 1) pe_str (nomark _)) (pss_one (ps_ret (pe_meth (pv 0) T.c_Server T.m_Server_type_in (ok_Server_type_in T) (hr.mono (by decide)) T.B_Server_type_in .nil (L2N.passes_call (L2N.takes_of rfl rfl rfl rfl) (fun _ _ _ _ h => h)) (pa_cons (pv 2) pa_nil)))) pss_nil) (pss_cons (ps_if (pt_cmpR op_eq (pv 1) pe_str (nomark _)) (pss_one (ps_ret (pe_meth (pv 0) T.c_Server T.m_Server_collect (ok_Server_collect T) (hr.mono (by decide)) T.B_Server_collect .nil (L2N.passes_call (L2N.takes_of rfl rfl rfl rfl) (fun _ _ _ _ h => h)) (pa_cons (pv 2) pa_nil)))) pss_nil) (pss_one (ps_ret (pe_ifExp (pt_cmpR op_eq (pv 1) pe_str (nomark _)) (pe_meth (pv 0) T.c_Server T.m_Server_leave (ok_Server_leave T) (hr.mono (by decide)) T.B_Server_leave .nil (L2N.passes_call (L2N.takes_of rfl rfl rfl rfl) (fun _ _ _ _ h => h)) (pa_cons (pv 2) pa_nil)) (pe_meth (pv 0) T.c_Server T.m_Server_tick (ok_Server_tick T) (hr.mono (by decide)) T.B_Server_tick .nil (L2N.passes_call (L2N.takes_of rfl rfl rfl rfl) (fun _ _ _ _ h => h)) (pa_cons (pv 2) pa_nil))))))))), ?_⟩)
  · (repeat (first | exact congrArg List.length h.1 | obtain ⟨_, h⟩ := h))
  · obtain ⟨a, l, al, r, d, ds, us, args, s, rfl, hs, hS, hr, hw, hlen, hal, hvs, hn, post⟩ := h
    rcases hs with rfl | rfl | rfl | rfl | rfl | rfl
    · exact pr_when (F := H) (b := true) (et_is (ev_strs (ev_var rfl) ev_c) (by decide)) (fun _ => pr_step (fun _ _ => rfl) hS hr hw hlen hal hvs hn post (ev_var rfl) (ev_var rfl)) (fun h => Bool.noConfusion h) H (Ex.refl H)
    · refine pr_when (F := H) (b := false) (et_is (ev_strs (ev_var rfl) ev_c) (by decide)) (fun h => Bool.noConfusion h) (fun _ => ?_) H (Ex.refl H)
      exact pr_when (b := true) (et_is (ev_strs (ev_var rfl) ev_c) (by decide)) (fun _ => pr_step (fun _ _ => rfl) hS hr hw hlen hal hvs hn post (ev_var rfl) (ev_var rfl)) (fun h => Bool.noConfusion h)
    · refine pr_when (F := H) (b := false) (et_is (ev_strs (ev_var rfl) ev_c) (by decide)) (fun h => Bool.noConfusion h) (fun _ => ?_) H (Ex.refl H)
      refine pr_when (b := false) (et_is (ev_strs (ev_var rfl) ev_c) (by decide)) (fun h => Bool.noConfusion h) fun _ => ?_
      exact pr_when (b := true) (et_is (ev_strs (ev_var rfl) ev_c) (by decide)) (fun _ => pr_step (fun _ _ => rfl) hS hr hw hlen hal hvs hn post (ev_var rfl) (ev_var rfl)) (fun h => Bool.noConfusion h)
    · refine pr_when (F := H) (b := false) (et_is (ev_strs (ev_var rfl) ev_c) (by decide)) (fun h => Bool.noConfusion h) (fun _ => ?_) H (Ex.refl H)
      refine pr_when (b := false) (et_is (ev_strs (ev_var rfl) ev_c) (by decide)) (fun h => Bool.noConfusion h) fun _ => ?_
      refine pr_when (b := false) (et_is (ev_strs (ev_var rfl) ev_c) (by decide)) (fun h => Bool.noConfusion h) fun _ => ?_
      exact pr_when (b := true) (et_is (ev_strs (ev_var rfl) ev_c) (by decide)) (fun _ => pr_step (fun _ _ => rfl) hS hr hw hlen hal hvs hn post (ev_var rfl) (ev_var rfl)) (fun h => Bool.noConfusion h)
    · refine pr_when (F := H) (b := false) (et_is (ev_strs (ev_var rfl) ev_c) (by decide)) (fun h => Bool.noConfusion h) (fun _ => ?_) H (Ex.refl H)
      refine pr_when (b := false) (et_is (ev_strs (ev_var rfl) ev_c) (by decide)) (fun h => Bool.noConfusion h) fun _ => ?_
      refine pr_when (b := false) (et_is (ev_strs (ev_var rfl) ev_c) (by decide)) (fun h => Bool.noConfusion h) fun _ => ?_
      refine pr_when (b := false) (et_is (ev_strs (ev_var rfl) ev_c) (by decide)) (fun h => Bool.noConfusion h) fun _ => ?_
      exact pr_retIfT (et_is (ev_strs (ev_var rfl) ev_c) (by decide)) (ee_step (fun _ _ => rfl) hS hr hw hlen hal hvs hn post (ev_var rfl) (ev_var rfl))
    · refine pr_when (F := H) (b := false) (et_is (ev_strs (ev_var rfl) ev_c) (by decide)) (fun h => Bool.noConfusion h) (fun _ => ?_) H (Ex.refl H)
      refine pr_when (b := false) (et_is (ev_strs (ev_var rfl) ev_c) (by decide)) (fun h => Bool.noConfusion h) fun _ => ?_
      refine pr_when (b := false) (et_is (ev_strs (ev_var rfl) ev_c) (by decide)) (fun h => Bool.noConfusion h) fun _ => ?_
      refine pr_when (b := false) (et_is (ev_strs (ev_var rfl) ev_c) (by decide)) (fun h => Bool.noConfusion h) fun _ => ?_
      exact pr_retIfF (et_is (ev_strs (ev_var rfl) ev_c) (by decide)) (ee_step (fun _ _ => rfl) hS hr hw hlen hal hvs hn post (ev_var rfl) (ev_var rfl))
end
end Sl
/-! ## SlSrvB -/
namespace Sl
open PySem PySem.Spec PyProof.Rows L2 Evl
open R7239g.Spec (Err Res natOrNull markPlain loginPlain sessionPlain deskPlain newDesk loginAt sessionAt isThief currentOf knownFrom pageFrom sees seesCode seesNumber signedAs numberIn rangeText rangeErrorWith loginArg placeArg sessionLives noLogin naturalOf needs andThen askArg scanArg typeArg collectArg leaveArg tickArg happen stepAnswer codeLives isNear scannedBy inTime grantLives mayTake accepted)
theorem MarkAt.inj {H : Hp} {v : V} : ∀ {x y : Option SMk}, MarkAt H v x → MarkAt H v y → x = y
  | none, none, _, _ => rfl
  | none, some m, h, h2 => by obtain ⟨t, e, _⟩ := h2; rw [show v = .non from h] at e; cases e
  | some m, none, h, h2 => by obtain ⟨t, e, _⟩ := h; rw [show v = .non from h2] at e; cases e
  | some ⟨p, t⟩, some ⟨p2, t2⟩, h, h2 => by
    obtain ⟨a, e, h3⟩ := h
    obtain ⟨b, e2, h4⟩ := h2
    rw [e] at e2
    injection e2 with e2
    subst e2
    rw [h3] at h4
    injection h4 with h4
    injection h4 with h4
    injection h4 with h5 h6
    injection h6 with h6 _
    injection h5 with h5
    injection h6 with h6
    have h5 : (p : Int) = p2 := h5
    have h6 : (t : Int) = t2 := h6
    have : p = p2 := by omega
    have : t = t2 := by omega
    subst p2; subst t2; rfl
theorem LoginAt.inj {K : PySem.W.Frag} {H : Hp} {v : V} {x y : SLg} (h : LoginAt K H v x) (h2 : LoginAt K H v y) : x = y := by
  obtain ⟨a, dx, s, g, rfl, h3, h4, h5⟩ := h
  obtain ⟨b, dx2, s2, g2, e, k3, k4, k5⟩ := h2
  injection e with e
  subst e
  rw [h3] at k3
  injection k3 with k3
  injection k3 with _ _ k3
  unfold lgF at k3
  simp only [List.cons.injEq, Prod.mk.injEq, V.int.injEq, V.bl.injEq, true_and, and_true] at k3
  obtain ⟨e1, e2, e3, e4, e5⟩ := k3
  subst e3; subst e4
  have e6 := h4.inj k4
  have e7 := h5.inj k5
  cases x; cases y
  simp only at e1 e2 e5 e6 e7
  have e1 : _ = _ := Int.ofNat.inj e1
  have e2 : _ = _ := Int.ofNat.inj e2
  subst e1; subst e2; subst e5; subst e6; subst e7
  rfl
theorem given_map : ∀ l : List R7239g.Spec.Plain, Rust.givenAll l = l.map gv
  | [] => rfl
  | x :: r => by rw [Rust.givenAll, given_map r]; rfl
theorem gv_desk (d : SD) : gv (deskPlain d) = .record [(us "now", .int d.now), (us "logins", .list (d.logins.map fun x => gv (loginPlain x))), (us "sessions", .list (d.sessions.map fun x => gv (sessionPlain x)))] := by
  show RWire.Value.record [(us "now", gv (R7239g.Spec.nat d.now)), (us "logins", .list (Rust.givenAll (d.logins.map loginPlain))), (us "sessions", .list (Rust.givenAll (d.sessions.map sessionPlain)))] = _
  rw [given_map, given_map, List.map_map, List.map_map]
  rfl
theorem gv_sess (m : SSs) : gv (sessionPlain (some m)) = .record [(us "login", .int m.login), (us "since", .int m.since)] := rfl
/-- values that stand side by side with logins -/
theorem vals_logins {K : PySem.W.Frag} {F H : Hp} : ∀ {xs : List V} {l : List SLg} {ys : List V}, LoginsAt K F xs l → All2 (fun x y => ∃ lg, LoginAt K F x lg ∧ ValAt K H y (gv (loginPlain lg))) xs ys → ValsAt K H ys (l.map fun x => gv (loginPlain x))
  | xs, [], ys, h, a => by
    obtain rfl : xs = [] := h
    cases a
    unfold ValsAt
    rfl
  | xs, z :: r, ys, h, a => by
    obtain ⟨v, us, rfl, h1, h2⟩ := h
    cases a with
    | cons b c =>
      obtain ⟨lg, g1, g2⟩ := b
      have := g1.inj h1
      subst this
      rw [List.map_cons]
      unfold ValsAt
      exact ⟨_, _, rfl, g2, vals_logins h2 c⟩
def spTd (K : PySem.W.Frag) : Sp := fun vs H Q _ => ∃ (a : Addr) (w : SD), vs = [.ref a] ∧ Sv K H a w ∧ Wd w ∧ ∀ u H', Ex H H' → ValAt K (nw H H') u (gv (deskPlain w)) → Q u H'
theorem ValsAt.snoc {K : PySem.W.Frag} {H : Hp} {v : V} {x : Val} : ∀ {vs : List V} {l : List Val}, ValsAt K H vs l → ValAt K H v x → ValsAt K H (vs ++ [v]) (l ++ [x])
  | vs, [], h, h2 => by
    obtain rfl : vs = [] := by unfold ValsAt at h; exact h
    show ValsAt K H [v] [x]
    unfold ValsAt
    refine ⟨v, [], rfl, h2, ?_⟩
    unfold ValsAt
    rfl
  | vs, y :: r, h, h2 => by
    unfold ValsAt at h
    obtain ⟨u, us, rfl, h3, h4⟩ := h
    show ValsAt K H (u :: (us ++ [v])) (y :: (r ++ [x]))
    unfold ValsAt
    exact ⟨u, _, rfl, h3, ValsAt.snoc h4 h2⟩
theorem SesssAt.at {H : Hp} : ∀ {vs : List V} {l : List (Option SSs)} {i : Nat} {v : V}, SesssAt H vs l → vs[i]? = some v → ∃ x, l[i]? = some x ∧ SessAt H v x
  | vs, [], i, v, h, e => by rw [show vs = [] from h] at e; cases e
  | vs, y :: r, 0, v, h, e => by
    obtain ⟨u, us, rfl, h1, h2⟩ := h
    injection e with e
    subst e
    exact ⟨y, rfl, h1⟩
  | vs, y :: r, i + 1, v, h, e => by
    obtain ⟨u, us, rfl, h1, h2⟩ := h
    exact SesssAt.at h2 (i := i) e
theorem take_snoc {α : Type} {l : List α} {i : Nat} {x : α} (h : l[i]? = some x) : l.take (i + 1) = l.take i ++ [x] := by
  obtain ⟨hi, e⟩ := List.getElem?_eq_some_iff.mp h
  rw [List.take_succ, h]
  rfl
theorem LoginsAt.mem {K : PySem.W.Frag} {H : Hp} {x : V} : ∀ {vs : List V} {l : List SLg}, LoginsAt K H vs l → x ∈ vs → ∃ lg, LoginAt K H x lg
  | vs, [], h, e => by rw [show vs = [] from h] at e; cases e
  | vs, y :: r, h, e => by
    obtain ⟨u, us, rfl, h1, h2⟩ := h
    rcases List.mem_cons.mp e with e | e
    · exact ⟨y, by rw [e]; exact h1⟩
    · exact LoginsAt.mem h2 e
theorem s_appG {K : PySem.W.Frag} {σ : L2.St} {H : Hp} {ta te : TE} {D : Ends} {P : V → Hp → Prop} {l : Addr} {xs : List V} (hl : H l = some (.lst xs)) (ha : Ev ta σ H (.ref l)) (h : Eg te σ H P) (hz : xs.length < 100000) (k : ∀ v H1, Ex H H1 → P v H1 → D.nx σ (upd H1 l (.lst (xs ++ [v])))) :
    tDrop (tBM K "list" rAppend ta (tCons te tNil)) D σ H := ha H (Ex.refl H) _ fun H1 e1 =>
  ⟨Or.inl ⟨rfl, xs, sq_of (e1 l _ hl)⟩, h H1 e1 _ fun v H2 e2 p => ⟨l, xs, v, rfl, rfl, e2 l _ (e1 l _ hl), sz_lt hz, k v H2 (e1.trans e2) p⟩⟩
local macro_rules
  | `(tactic| walk_at "ev") => `(tactic| first
    | exact ev_c
    | exact ev_var rfl
    | ((with_reducible refine' ev_fld ?k1 ?k2 ?k3 ?k4 ?k5); (case k1 => walk_at "ev"); (case k2 => assumption); (case k3 => exact Tx.cl (by assumption) rfl); (case k4 => exact Tx.na (by assumption) rfl); (case k5 => rfl))
    | (refine' ev_st ?k1 ?k2 ?k3; (case k1 => walk_at "ev"); (case k2 => assumption); (case k3 => assumption))
    | ((with_reducible refine' ev_ixT ?k1 ?k2 ?k3 ?k4); (case k1 => walk_at "ev"); (case k2 => walk_at "ev"); (case k3 => assumption); (case k4 => first | assumption | rfl))
    | (refine' ev_isN ?k1; (case k1 => walk_at "ev"))
    | (refine' ev_notN ?k1; (case k1 => walk_at "ev"))
    | (refine' ev_int ?k1 ?k2; (case k1 => walk_at "ev"); (case k2 => walk_at "ev"))
    | ((with_reducible refine' ev_sc ?k1 ?k2 ?k3); (case k1 => walk_at "ev"); (case k2 => walk_at "ev"); (case k3 => rfl))
    | ((with_reducible refine' ev_scn ?k1 ?k2 ?k3); (case k1 => walk_at "ev"); (case k2 => walk_at "ev"); (case k3 => rfl))
    | ((with_reducible refine' ev_notV ?k1); (case k1 => walk_at "ev"))
    | ((with_reducible refine' ev_andV ?k1 ?k2); (case k1 => walk_at "ev"); (case k2 => intro _; walk_at "ev"))
    | ((with_reducible refine' ev_orV ?k1 ?k2); (case k1 => walk_at "ev"); (case k2 => intro _; walk_at "ev"))
    | ((with_reducible refine' et_test ?k1); (case k1 => walk_at "ev"))
    | ((with_reducible refine' et_B ?k1); (case k1 => walk_at "ev"))
    | ((with_reducible refine' et_and ?k1 ?k2); (case k1 => walk_at "ev"); (case k2 => intro _; walk_at "ev"))
    | ((with_reducible refine' et_or ?k1 ?k2); (case k1 => walk_at "ev"); (case k2 => intro _; walk_at "ev"))
    | ((with_reducible refine' et_not ?k1); (case k1 => walk_at "ev"))
    | exact ea_nil
    | ((with_reducible refine' ea_cons ?k1 ?k2); (case k1 => walk_at "ev"); (case k2 => walk_at "ev")))
section
variable {P : Program} {w : World} {K : PySem.W.Frag} {mg : Str → Option Value} {base : Heap}
theorem sc_Server_told : FnScope ["self", "state", "sessions", "session", "members", "login"] ["self"] d_Server_told.scope := ⟨rfl, rfl, rfl, by decide +kernel, rfl, by decide +kernel, by decide +kernel⟩
theorem ok_Server_told (T : Tx w K mg) : FnOk P w K mg base CX0 5 (He.ma K (He.ga K "Server") "told") (fdOf K (He.ma K (He.ga K "Server") "told")) ["self"] (spTd K) := by
  refine mkOk T.F_Server_told ⟨rfl, rfl⟩ sc_Server_told (fun vs H Q E h => ?_) (fun cdv A outer s H vs Q E hr h => ⟨_, (pss_cons (ps_par (i := 1) (j := 2) rfl sc_Server_told.nd rfl rfl (by decide) rfl rfl (pa_cons (pe_meth0 (pv 0) T.c_Server T.m_Server_state (ok_Server_state T) (hr.mono (by decide)) T.B_Server_state .nil pass0) (pa_cons (pe_lst pa_nil) pa_nil)) (by rfl)) (pss_cons (ps_for PassesOwn.never rfl (pi_tup (pe_fld (pv 1) rfl)) (pg_name (i := 3) sc_Server_told.nd rfl (Or.inl rfl)) (pss_one (ps_expr (pe_bm PySem.F.plainAttrs_list PySem.F.slot_list_append PySem.F.type_list_append mt_append (pv 2) (pa_cons (pe_ifExp (pt_cmpR op_isN (pv 3) pe_non (nomark _)) pe_non (pe_make T.k_Record (ok_Record_init T) (hr.mono (by decide)) rfl T.g_Record T.B_Record_init .nil pass0 (pa_cons (pe_lst (pa_cons (pe_tup (pa_cons pe_str (pa_cons (pe_ix ix_tup (pv 3) pe_int (fun _ _ => rfl)) pa_nil))) (pa_cons (pe_tup (pa_cons pe_str (pa_cons (pe_ix ix_tup (pv 3) pe_int (fun _ _ => rfl)) pa_nil))) pa_nil))) pa_nil))) pa_nil))))) (pss_cons (ps_set (i := 4) sc_Server_told.nd rfl (Or.inl rfl) (pe_lst (pa_cons (pe_tup (pa_cons pe_str (pa_cons (pe_fld (pv 1) rfl) pa_nil))) (pa_cons (pe_tup (pa_cons pe_str (pa_cons (pe_lc (own := [("login", 5)]) (g := gName 5) (tt := tYes) (by rfl) sc_Server_told.nd (pi_tup (pe_fld (pv 1) rfl)) (blkOk_by (own := [("login", 5)]) (N := ["self", "state", "sessions", "session", "members", "login"]) (sc := d_Server_told.scope) (by decide +kernel)) (fun _ _ _ _ _ => pg_name (i := 5) sc_Server_told.nd rfl (Or.inl rfl)) (fun _ _ _ _ _ => pts_nil) (fun _ _ _ _ _ => (pe_meth0 (pv 5) T.c_Login T.m_Login_told (ok_Login_told T) (hr.mono (by decide)) T.B_Login_told .nil pass0))) pa_nil))) pa_nil)))) (pss_one (ps_ret (pe_make T.k_Record (ok_Record_init T) (hr.mono (by decide)) rfl T.g_Record T.B_Record_init .nil pass0 (pa_cons (pe_op op_cat (pv 4) (pe_lst (pa_cons (pe_tup (pa_cons pe_str (pa_cons (pv 2) pa_nil))) pa_nil))) pa_nil))))))), ?_⟩)
  · (repeat (first | exact congrArg List.length h.1 | obtain ⟨_, h⟩ := h))
  · obtain ⟨a, d, rfl, hs, hw, q⟩ := h
    obtain ⟨dx, ra, l, us', t, h1, ⟨rk, dr, h2⟩, h3, ⟨ds, lt, st, ls, ss, g1, g2, g3, g4, g5⟩⟩ := id hs
    have lss : ss.length = d.sessions.length := g5.len
    have hsl : d.sessions.length ≤ 1000 := by rw [hw.ss]; have := rk.o2; omega
    rw [gv_desk] at q
    refine (ev_st (ev_var rfl) h1 h3) H (Ex.refl H) _ fun H0 x0 => ⟨sz_of (by show 0 ≤ 100000; decide), fun p hp => ⟨_, _, rfl, ?_⟩⟩
    have xp : Ex H0 (upd H0 p (.lst [])) := Ex.new hp
    have xB := x0.trans xp
    have dB : Dom H (upd H0 p (.lst [])) := Dom.of xB
    have pB : upd H0 p (.lst []) p ≠ none := by rw [upd_same]; simp
    generalize hB : upd H0 p (.lst []) = B at xp xB dB pB
    have hpl : B p = some (.lst []) := by rw [← hB]; exact upd_same
    have hp0 : H p = none := fresh_back x0 hp
    refine q_forT (H := B) (a := st) (xs := ss) (ev_fld (ev_var rfl) (xB _ _ g1) T.c_State T.n_State_sessions rfl) (st_of (xB _ _ g4))
      (fun i σ' H' => Ex H H' ∧ Dom B H' ∧ (∃ y, σ' = [some (.ref a), some (.ref t), some (.ref p), y, none, none]) ∧ ∃ vs, vs.length = i ∧ H' p = some (.lst vs) ∧ ValsAt K (nw B H') vs ((d.sessions.take i).map fun x => gv (sessionPlain x)))
      (fun H1 x1 => ⟨xB.trans x1, Dom.of x1, ⟨_, rfl⟩, [], rfl, x1 _ _ hpl, by unfold ValsAt; rfl⟩) (fun i σ' H' _ pv => st_of (pv.1 _ _ g4)) (fun i y σ' H' hi pv => ?_) fun σ' H' pv => ?_
    · obtain ⟨x1, d1, ⟨y0, rfl⟩, vs, hvl, hl, hv⟩ := pv
      obtain ⟨x, hx, hsx⟩ := g5.at hi
      have hi2 : i < d.sessions.length := (List.getElem?_eq_some_iff.mp hx).1
      have hv1 : EgB K B (tIf (tB (tOp (fun x y H Q => y = .non ∧ Q (.bl (decide (x = .non))) H) (tVar 3) (tC .non))) (tC .non) (tMake (He.ga K "Record") (spFields (He.ga K "Record") 1 recF) [] (fun _ _ _ => False) (tCons (tLst (tCons (tTup (tCons (tC (.str "login")) (tCons (tOp (rIxT K) (tVar 3) (tC (.int 0))) tNil))) (tCons (tTup (tCons (tC (.str "since")) (tCons (tOp (rIxT K) (tVar 3) (tC (.int 1))) tNil))) tNil))) tNil))) [some (.ref a), some (.ref t), some (.ref p), some y, none, none] H' (gv (sessionPlain x)) := by
        cases x with
        | none => exact gb_if (b := true) (et_is (et_B (ev_isN (x := y) (ev_var rfl))) (by rw [show y = V.non from hsx]; rfl)) (fun _ => gb_non ev_c) fun h => Bool.noConfusion h
        | some m =>
          obtain ⟨mt, rfl, hmt⟩ := hsx
          have hm1 := x1 _ _ hmt
          rw [gv_sess]
          exact gb_if (b := false) (et_is (et_B (ev_isN (x := .ref mt) (ev_var rfl))) rfl) (fun h => Bool.noConfusion h) fun _ => gb_record d1 (gb_lst d1 (gbs_cons d1 (by decide +kernel) (gb_int (ev_ixT (ev_var rfl) ev_c hm1 rfl)) (gbs_cons d1 (by decide +kernel) (gb_int (ev_ixT (ev_var rfl) ev_c hm1 rfl)) gbs_nil)) rfl)
      subst hvl
      refine s_appG hl (ev_var rfl) hv1 (by omega) fun v H2 x2 p2 => ?_
      have n2 : nw B (upd H2 p (.lst (vs ++ [v]))) = nw B H2 := nw_keep pB
      have hsp : H2 p ≠ none := by rw [x2 _ _ hl]; simp
      refine ⟨Ex.mut (x1.trans x2) hp0, fun z hz => ?_, ⟨_, rfl⟩, vs ++ [v], by rw [List.length_append]; rfl, upd_same, ?_⟩
      · by_cases e : z = p
        · rw [e, upd_same] at hz; cases hz
        · rw [upd_ne e] at hz; exact d1 z (fresh_back x2 hz)
      · rw [n2, take_snoc hx, List.map_append]
        exact (hv.mono (nw_mono (Dom.refl _) x2)).snoc p2
    · obtain ⟨x1, d1, ⟨y0, rfl⟩, vs, hvl, hl, hv⟩ := pv
      rw [lss, List.take_length] at hv
      have h1' := x1 _ _ h1
      have g1' := x1 _ _ g1
      have dH : Dom H H' := Dom.of x1
      have hse : ∀ i : Nat, ∀ σ : L2.St, σ[i]? = some (some (.ref p)) → ∀ G, Ex H' G → EgB K H (tVar i) σ G (.list (d.sessions.map fun x => gv (sessionPlain x))) := fun i σ hσ G eG => eg_ev (ev_var hσ) fun H1 e1 => by
        unfold ValAt
        exact ⟨p, vs, rfl, by rw [nw_at hp0]; exact e1 _ _ (eG _ _ hl), hv.mono (nw_mono dB (eG.trans e1))⟩
      refine pr_asgG (F := H') (P := fun v G => ∃ m ts, v = .ref m ∧ nw H G m = some (.lst ts) ∧ EntsAt K (nw H G) ts [(us "now", .int d.now), (us "logins", .list (d.logins.map fun x => gv (loginPlain x)))]) ?_ (fun v H1 x2 hv2 => ?_) H' (Ex.refl H')
      · refine gb_lst dH (gbs_cons dH (by decide +kernel) (gb_int (by walk_at "ev")) (gbs_cons dH (by decide +kernel) (fun G eG Q k => ?_) gbs_nil)) rfl
        refine (egn_lcT (P := fun x y H2 => ∃ lg, LoginAt K H x lg ∧ ValAt K H2 y (gv (loginPlain lg))) (fun x _ _ y e z => by obtain ⟨lg, z1, z2⟩ := z; exact ⟨lg, z1, z2.mono e⟩) (ev_fld (v := .ref lt) (ev_var rfl) g1' T.c_State T.n_State_logins rfl) (st_of (x1 _ _ g2)) (by have := g3.len; have := hw.ll; omega) (fun x => rfl) fun x H2 hx e2 => ?_) G eG Q fun v H2 e2 pv => k v H2 e2 ?_
        · obtain ⟨lg, hlg⟩ := g3.mem hx
          have hlg' := hlg
          obtain ⟨a0, dx0, s0, g0, rfl, k1, k2, k3⟩ := hlg
          intro H4 e4 Q4 q4
          refine (ev_var (v := .ref a0) rfl) H4 e4 _ fun H5 e5 => ⟨a0, dx0, _, rfl, (((x1.trans e2).trans e4).trans e5) _ _ k1, rfl, ?_⟩
          exact ⟨a0, lg, rfl, hlg'.im (Im.of (((x1.trans e2).trans e4).trans e5)), fun u H6 e6 hv6 => q4 u H6 (e5.trans e6) ⟨lg, hlg', hv6.mono (nw_mono (Dom.of e5) (Ex.refl H6))⟩⟩
        · obtain ⟨m, ys, rfl, hm, al⟩ := pv
          unfold ValAt
          have d2 : Dom H G := dH.trans (Dom.of eG)
          exact ⟨m, ys, rfl, nw_mono d2 (Ex.refl H2) _ _ hm, (vals_logins g3 al).mono (nw_mono d2 (Ex.refl H2))⟩
      obtain ⟨m, ts, rfl, hm, he⟩ := hv2
      have d2 : Dom H H1 := dH.trans (Dom.of x2)
      refine pr_retG (P := fun v G => ValAt K (nw H G) v (.record ([(us "now", .int d.now), (us "logins", .list (d.logins.map fun x => gv (loginPlain x)))] ++ [(us "sessions", .list (d.sessions.map fun x => gv (sessionPlain x)))]))) ?_ (fun u G e pz => q u G (x1.trans (x2.trans e)) pz)
      exact gb_record d2 (gb_cat d2 (EgBE.of_var rfl hm he) (gb_lst d2 (gbs_cons d2 (by decide +kernel) (hse 2 _ rfl H1 x2) gbs_nil) rfl) (Nat.le_of_ble_eq_true rfl))
end
end Sl
/-! ## SlIs -/
namespace Sl
open PySem PySem.Spec PyProof.Rows L2 Evl
theorem keys_all {P : Params} {z : Str} : ∀ {l : List DictEntry} {ks : List Str}, l.map He.keyOf = He.keysIn P ks → z ∉ ks → l.find? (·.key.isStr z) = none ∧ l.any (·.refKey) = false
  | [], _, _, _ => ⟨rfl, rfl⟩
  | e :: r, [], h, _ => by cases h
  | e :: r, k :: ks, h, hz => by
    have h1 : He.keyOf e :: r.map He.keyOf = some (k, PyData.keyHash P k) :: He.keysIn P ks := h
    injection h1 with h2 h3
    obtain ⟨i1, i2⟩ := keys_all h3 fun m => hz (List.mem_cons_of_mem _ m)
    have hk : k ≠ z := fun m => hz (by rw [m]; exact List.mem_cons_self ..)
    unfold He.keyOf at h2
    split at h2
    · rename_i x t q
      have h4 := Option.some.inj h2
      obtain ⟨h5, h6⟩ := Prod.mk.inj h4
      subst h5
      constructor
      · rw [List.find?_cons_of_neg, i1]
        rw [q]
        show ¬ (x == z) = true
        simpa using hk
      · rw [List.any_cons, i2, Bool.or_false]
        unfold DictEntry.refKey
        rw [q]
    · cases h2
theorem nsin_none {K : PySem.W.Frag} {P : Params} {a : Addr} {ks : List Str} {z : Str} (h : He.dicW K a = some (He.keysIn P ks)) (hz : z ∉ ks) : PySem.W.nsIn K a z = some none := by
  unfold He.dicW at h
  split at h
  · rename_i c es n sl q
    split at h
    · injection h with h
      obtain ⟨h1, h2⟩ := keys_all h hz
      unfold PySem.W.nsIn
      rw [q]
      dsimp only
      rw [h1, h2]
      rfl
    · cases h
  · cases h
end Sl
/-! ## SlSrvC -/
namespace Sl
open PySem PySem.Spec PyProof.Rows L2 Evl
def tblS : List (String × Nat) := [("ask", 1), ("scan", 2), ("type", 2), ("collect", 2), ("leave", 1), ("tick", 1)]
def szOf (u : List UInt8) : Option Nat := (tblS.find? fun e => us e.1 == u).map (·.2)
def isStep : Val → Bool
  | .list (.text u :: r) => match szOf u with
    | some n => r.length == n
    | none => false
  | _ => false
theorem sz_yes {w : World} {K : PySem.W.Frag} {mg : Str → Option Value} (T : Tx w K mg) {u : List UInt8} {n : Nat} (h : szOf u = some n) : ∃ x, PySem.W.nsIn K (He.ga K "SIZES") (enc u) = some (some x) ∧ RelV (.int n) x := by
  have ht := T.tups.2.2.2.2.1
  unfold szOf at h
  obtain ⟨e, he, rfl⟩ := Option.map_eq_some_iff.mp h
  have hm := List.mem_of_find?_eq_some he
  have hu := List.find?_some he
  have hu : us e.1 = u := by simpa using hu
  subst hu
  simp only [tblS, List.mem_cons, List.not_mem_nil, or_false] at hm
  rcases hm with rfl | rfl | rfl | rfl | rfl | rfl
  · rw [show enc (us "ask") = Str.ofString "ask" by decide +kernel]; exact He.valsB_ok ht (q := ("ask", .int 1)) (by simp)
  · rw [show enc (us "scan") = Str.ofString "scan" by decide +kernel]; exact He.valsB_ok ht (q := ("scan", .int 2)) (by simp)
  · rw [show enc (us "type") = Str.ofString "type" by decide +kernel]; exact He.valsB_ok ht (q := ("type", .int 2)) (by simp)
  · rw [show enc (us "collect") = Str.ofString "collect" by decide +kernel]; exact He.valsB_ok ht (q := ("collect", .int 2)) (by simp)
  · rw [show enc (us "leave") = Str.ofString "leave" by decide +kernel]; exact He.valsB_ok ht (q := ("leave", .int 1)) (by simp)
  · rw [show enc (us "tick") = Str.ofString "tick" by decide +kernel]; exact He.valsB_ok ht (q := ("tick", .int 1)) (by simp)
theorem sz_no {w : World} {K : PySem.W.Frag} {mg : Str → Option Value} (T : Tx w K mg) {u : List UInt8} (h : szOf u = none) : PySem.W.nsIn K (He.ga K "SIZES") (enc u) = some none := by
  refine nsin_none (ks := steps6) (congrArg (fun z : AlS => z.2) T.says) fun hm => ?_
  unfold szOf at h
  have h2 := List.find?_eq_none.mp (Option.map_eq_none_iff.mp h)
  have k : ∀ e ∈ tblS, enc u ≠ enc (us e.1) := fun e he q => h2 e he (by rw [enc_inj q]; exact beq_self_eq_true _)
  simp only [steps6, List.mem_cons, List.not_mem_nil, or_false] at hm
  rcases hm with q | q | q | q | q | q
  · exact k ("ask", 1) (by simp [tblS]) (q.trans (by decide +kernel))
  · exact k ("scan", 2) (by simp [tblS]) (q.trans (by decide +kernel))
  · exact k ("type", 2) (by simp [tblS]) (q.trans (by decide +kernel))
  · exact k ("collect", 2) (by simp [tblS]) (q.trans (by decide +kernel))
  · exact k ("leave", 1) (by simp [tblS]) (q.trans (by decide +kernel))
  · exact k ("tick", 1) (by simp [tblS]) (q.trans (by decide +kernel))
def spIS (K : PySem.W.Frag) : Sp := fun vs H Q _ => ∃ (v : V) (x : Val), vs = [v] ∧ ValAt K H v x ∧ ∀ H', Ex H H' → Q (.bl (isStep x)) H'
local macro_rules
  | `(tactic| walk_at "ev") => `(tactic| first
    | exact ev_c
    | exact ev_var rfl
    | ((with_reducible refine' ev_fld ?k1 ?k2 ?k3 ?k4 ?k5); (case k1 => walk_at "ev"); (case k2 => assumption); (case k3 => exact Tx.cl (by assumption) rfl); (case k4 => exact Tx.na (by assumption) rfl); (case k5 => rfl))
    | (refine' ev_st ?k1 ?k2 ?k3; (case k1 => walk_at "ev"); (case k2 => assumption); (case k3 => assumption))
    | ((with_reducible refine' ev_ixT ?k1 ?k2 ?k3 ?k4); (case k1 => walk_at "ev"); (case k2 => walk_at "ev"); (case k3 => assumption); (case k4 => first | assumption | rfl))
    | (refine' ev_isN ?k1; (case k1 => walk_at "ev"))
    | (refine' ev_notN ?k1; (case k1 => walk_at "ev"))
    | (refine' ev_int ?k1 ?k2; (case k1 => walk_at "ev"); (case k2 => walk_at "ev"))
    | ((with_reducible refine' ev_sc ?k1 ?k2 ?k3); (case k1 => walk_at "ev"); (case k2 => walk_at "ev"); (case k3 => rfl))
    | ((with_reducible refine' ev_scn ?k1 ?k2 ?k3); (case k1 => walk_at "ev"); (case k2 => walk_at "ev"); (case k3 => rfl))
    | ((with_reducible refine' ev_notV ?k1); (case k1 => walk_at "ev"))
    | ((with_reducible refine' ev_andV ?k1 ?k2); (case k1 => walk_at "ev"); (case k2 => intro _; walk_at "ev"))
    | ((with_reducible refine' ev_orV ?k1 ?k2); (case k1 => walk_at "ev"); (case k2 => intro _; walk_at "ev"))
    | ((with_reducible refine' et_test ?k1); (case k1 => walk_at "ev"))
    | ((with_reducible refine' et_B ?k1); (case k1 => walk_at "ev"))
    | ((with_reducible refine' et_and ?k1 ?k2); (case k1 => walk_at "ev"); (case k2 => intro _; walk_at "ev"))
    | ((with_reducible refine' et_or ?k1 ?k2); (case k1 => walk_at "ev"); (case k2 => intro _; walk_at "ev"))
    | ((with_reducible refine' et_not ?k1); (case k1 => walk_at "ev"))
    | exact ea_nil
    | ((with_reducible refine' ea_cons ?k1 ?k2); (case k1 => walk_at "ev"); (case k2 => walk_at "ev")))
section
variable {P : Program} {w : World} {K : PySem.W.Frag} {mg : Str → Option Value} {base : Heap}
theorem sc_is_step : FnScope ["value"] ["value"] d_is_step.scope := ⟨rfl, rfl, rfl, by decide +kernel, rfl, by decide +kernel, by decide +kernel⟩
theorem ok_is_step (T : Tx w K mg) : FnOk P w K mg base CX0 1 (He.ga K "is_step") (fdOf K (He.ga K "is_step")) ["value"] (spIS K) := by
  obtain ⟨_, _, hsz⟩ := T.sz
  refine mkOk T.F_is_step ⟨rfl, rfl⟩ sc_is_step (fun vs H Q E h => ?_) (fun cdv A outer s H vs Q E hr h => ⟨_, (pss_cons (ps_if (PW.pt (pw_or (pt_not (pt_val (pe_callB call_isi (by rfl) T.f_isinstance (by decide +kernel) (pa_cons (pv 0) (pa_cons (pe_bltn (v := .ty "list") (u := .type "list") (by rfl) T.f_list (by decide +kernel) rfl) pa_nil))))) (pw_or (pt_cmpR op_eq (pe_callB call_len (by rfl) T.f_len (by decide +kernel) (pa_cons (pv 0) pa_nil)) pe_int (nomark _)) (pw_or1 (pt_not (pt_val (pe_callB call_isi (by rfl) T.f_isinstance (by decide +kernel) (pa_cons (pe_ix ix_list (pv 0) pe_int (fun _ _ => rfl)) (pa_cons (pe_bltn (v := .ty "str") (u := .type "str") (by rfl) T.f_str (by decide +kernel) rfl) pa_nil))))))))) (pss_one (ps_ret pe_bl)) pss_nil) (pss_one (ps_ret (pe_and (pe_cmpR (op_in_kd hsz) (pe_ix ix_list (pv 0) pe_int (fun _ _ => rfl)) (pe_glob (v := .ref (He.ga K "SIZES")) rfl T.g_SIZES rfl) rfl) (pe_one (pe_cmpR op_eq (pe_callB call_len (by rfl) T.f_len (by decide +kernel) (pa_cons (pv 0) pa_nil)) (pe_op op_add pe_int (pe_ix ix_kdict (pe_glob (v := .ref (He.ga K "SIZES")) rfl T.g_SIZES rfl) (pe_ix ix_list (pv 0) pe_int (fun _ _ => rfl)) (fun _ _ => rfl))) (nomark _))))))), ?_⟩)
  · (repeat (first | exact congrArg List.length h.1 | obtain ⟨_, h⟩ := h))
  · obtain ⟨v, x, rfl, hv, q⟩ := h
    have hx : EgV K (tVar 0) [some v] H x := gv_varE rfl hv
    cases hL : isL x with
    | false =>
      have e : isStep x = false := by
        cases x with
        | list l => cases hL
        | _ => rfl
      rw [e] at q
      exact pr_when (F := H) (b := true) (et_or (a := true) (b := true) (et_is (et_not (et_test (ev_isL hx T))) (by rw [hL]; rfl)) fun h => Bool.noConfusion h) (fun _ => pr_ret ev_c q) (fun h => Bool.noConfusion h) H (Ex.refl H)
    | true =>
      cases x with
      | list l =>
        have hv2 := hv
        unfold ValAt at hv2
        obtain ⟨a, vs, rfl, ha, hvs⟩ := hv2
        have len := hvs.len
        cases l with
        | nil =>
          exact pr_when (F := H) (b := true) (et_or (a := false) (b := true) (et_is (et_not (et_test (ev_isL hx T))) rfl) fun _ => et_or (a := true) (b := true) (et_is (et_B (ev_sc (x := .int vs.length) (y := .int 0) (ev_len2 (ev_var rfl) (sq_of ha)) ev_c rfl)) (by rw [len]; rfl)) fun h => Bool.noConfusion h) (fun _ => pr_ret ev_c q) (fun h => Bool.noConfusion h) H (Ex.refl H)
        | cons y r =>
          unfold ValsAt at hvs
          obtain ⟨v0, us', rfl, h0, h1⟩ := hvs
          have e0 : ∀ {σ : L2.St}, σ[0]? = some (some (.ref a)) → Ev (tOp (rIxL K) (tVar 0) (tC (.int 0))) σ H v0 := fun hσ => ev_op (ev_var hσ) ev_c (rv_ixL (sq_of ha) (show atI (v0 :: us') 0 = some v0 from atI_nat (i := 0) rfl))
          have hy : EgV K (tOp (rIxL K) (tVar 0) (tC (.int 0))) [some (.ref a)] H y := eg_ev (e0 rfl) fun H' e => h0.mono e
          have ln := ev_len2 (K := K) (F := H) (ta := tVar 0) (σ := [some (.ref a)]) (xs := v0 :: us') (ev_var rfl) (sq_of ha)
          refine pr_when (F := H) (b := !isS y) (et_or (a := false) (b := !isS y) (et_is (et_not (et_test (ev_isL hx T))) rfl) fun _ => et_or (a := false) (et_is (et_B (ev_sc (x := .int (v0 :: us').length) (y := .int 0) ln ev_c rfl)) (decide_eq_false fun z => by injection z with z; rw [List.length_cons] at z; omega)) fun _ => et_not (et_test (ev_isS hy T))) (fun hb => ?_) (fun hb => ?_) H (Ex.refl H)
          · refine pr_ret ev_c ?_
            have e : isStep (.list (y :: r)) = false := by
              cases y with
              | text u => cases hb
              | _ => rfl
            rw [e] at q
            exact q
          · cases y with
            | text u =>
              unfold ValAt at h0
              subst h0
              cases hz : szOf u with
              | none =>
                have e : isStep (.list (.text u :: r)) = false := by show (match szOf u with | some n => r.length == n | none => false) = false; rw [hz]
                rw [e] at q
                exact pr_ret (ev_andV (a := false) (b := false) (ev_op (e0 rfl) ev_c fun H1 _ _ q => ⟨_, _, rfl, rfl, sz_no T hz, q H1 (Ex.refl H1)⟩) fun h => Bool.noConfusion h) q
              | some n =>
                have e : isStep (.list (.text u :: r)) = (r.length == n) := by show (match szOf u with | some n => r.length == n | none => false) = _; rw [hz]
                rw [e] at q
                obtain ⟨u', n1, n2⟩ := sz_yes T hz
                obtain ⟨es, m, kd⟩ := T.sz
                refine pr_ret (ev_is (ev_andV (a := true) (ev_op (e0 rfl) ev_c fun H1 _ _ q => ⟨_, _, rfl, rfl, n1, q H1 (Ex.refl H1)⟩) fun _ => ev_sc (x := .int (V.str (enc u) :: us').length) (y := .int ((1 + n : Nat) : Int)) ln (ev_addN (a := 1) (b := n) ev_c (ev_op ev_c (e0 rfl) fun H1 _ _ q => ⟨_, _, _, rfl, rfl, ⟨es, m, u', kd.at_, kd.lit, n1, n2⟩, q H1 (Ex.refl H1)⟩)) rfl) ?_) q
                rw [beqN, Bool.true_and, len, List.length_cons]
                congr 1
                rw [Bool.eq_iff_iff]
                simp
                omega
            | _ => cases hb
      | _ => cases hL
end
end Sl
/-! ## SlDesk -/
namespace Sl
open PySem PySem.Spec PyProof.Rows L2 Evl
def spSl (K : PySem.W.Frag) : Sp := fun vs H Q _ => ∃ n : Nat, vs = [.int n] ∧ n < 4 ∧ ∀ H', Ex H H' → Q (.int n) H'
def RulO (K : PySem.W.Frag) (H : Hp) (v : V) : Option SR → Prop
  | none => v = .non
  | some r => ∃ a, v = .ref a ∧ RulesAt K H a r
def spRIn (K : PySem.W.Frag) : Sp := fun vs H Q _ => ∃ (a dx rl sl ra : Addr) (us : List V) (n : Nat), vs = [.ref a, .int n] ∧ n < 4 ∧ H a = some (.ins (He.ga K "Desk") dx [("rules", .ref rl), ("servers", .ref sl)]) ∧ H rl = some (.lst us) ∧ us[n]? = some (.ref ra) ∧ ∀ H', Ex H H' → Q (.ref ra) H'
def spSIn (K : PySem.W.Frag) : Sp := fun vs H Q _ => ∃ (a dx rl sl ra : Addr) (us : List V) (n : Nat), vs = [.ref a, .int n] ∧ n < 4 ∧ H a = some (.ins (He.ga K "Desk") dx [("rules", .ref rl), ("servers", .ref sl)]) ∧ H sl = some (.lst us) ∧ us[n]? = some (.ref ra) ∧ ∀ H', Ex H H' → Q (.ref ra) H'
theorem ev_slot {K : PySem.W.Frag} {σ : L2.St} {F : Hp} {te : TE} {E : XK} {n : Nat} (hn : n < 4) (h : Ev te σ F (.int n)) : Ev (tCall (spSl K) [] E (tCons te tNil)) σ F (.int n) := fun H1 e Q q =>
  h H1 e _ fun H2 e2 => ⟨n, rfl, hn, fun H3 e3 => q H3 (e2.trans e3)⟩
local macro_rules
  | `(tactic| walk_at "ev") => `(tactic| first
    | exact ev_c
    | exact ev_var rfl
    | ((with_reducible refine' ev_fld ?k1 ?k2 ?k3 ?k4 ?k5); (case k1 => walk_at "ev"); (case k2 => assumption); (case k3 => exact Tx.cl (by assumption) rfl); (case k4 => exact Tx.na (by assumption) rfl); (case k5 => rfl))
    | (refine' ev_st ?k1 ?k2 ?k3; (case k1 => walk_at "ev"); (case k2 => assumption); (case k3 => assumption))
    | ((with_reducible refine' ev_ixT ?k1 ?k2 ?k3 ?k4); (case k1 => walk_at "ev"); (case k2 => walk_at "ev"); (case k3 => assumption); (case k4 => first | assumption | rfl))
    | (refine' ev_isN ?k1; (case k1 => walk_at "ev"))
    | (refine' ev_notN ?k1; (case k1 => walk_at "ev"))
    | (refine' ev_int ?k1 ?k2; (case k1 => walk_at "ev"); (case k2 => walk_at "ev"))
    | ((with_reducible refine' ev_sc ?k1 ?k2 ?k3); (case k1 => walk_at "ev"); (case k2 => walk_at "ev"); (case k3 => rfl))
    | ((with_reducible refine' ev_scn ?k1 ?k2 ?k3); (case k1 => walk_at "ev"); (case k2 => walk_at "ev"); (case k3 => rfl))
    | ((with_reducible refine' ev_notV ?k1); (case k1 => walk_at "ev"))
    | ((with_reducible refine' ev_andV ?k1 ?k2); (case k1 => walk_at "ev"); (case k2 => intro _; walk_at "ev"))
    | ((with_reducible refine' ev_orV ?k1 ?k2); (case k1 => walk_at "ev"); (case k2 => intro _; walk_at "ev"))
    | ((with_reducible refine' et_test ?k1); (case k1 => walk_at "ev"))
    | ((with_reducible refine' et_B ?k1); (case k1 => walk_at "ev"))
    | ((with_reducible refine' et_and ?k1 ?k2); (case k1 => walk_at "ev"); (case k2 => intro _; walk_at "ev"))
    | ((with_reducible refine' et_or ?k1 ?k2); (case k1 => walk_at "ev"); (case k2 => intro _; walk_at "ev"))
    | ((with_reducible refine' et_not ?k1); (case k1 => walk_at "ev"))
    | exact ea_nil
    | ((with_reducible refine' ea_cons ?k1 ?k2); (case k1 => walk_at "ev"); (case k2 => walk_at "ev")))
section
variable {P : Program} {w : World} {K : PySem.W.Frag} {mg : Str → Option Value} {base : Heap}
theorem sc_slot_of : FnScope ["value"] ["value"] d_slot_of.scope := ⟨rfl, rfl, rfl, by decide +kernel, rfl, by decide +kernel, by decide +kernel⟩
theorem ok_slot_of (T : Tx w K mg) : FnOk P w K mg base CX0 4 (He.ga K "slot_of") (fdOf K (He.ga K "slot_of")) ["value"] (spSl K) := by
  refine mkOk T.F_slot_of ⟨rfl, rfl⟩ sc_slot_of (fun vs H Q E h => ?_) (fun cdv A outer s H vs Q E hr h => ⟨_, (pss_cons (ps_if (pt_not (pt_val (pe_call (ok_is_within T) (hr.mono (by decide)) rfl T.g_is_within T.kp_is_within T.B_is_within .nil pass0 (pa_cons (pv 0) (pa_cons pe_int (pa_cons (pe_op op_sub (pe_gc rfl T.i_SLOTS) pe_int) pa_nil)))))) (pss_one ps_never) pss_nil) (pss_one (ps_ret (pv 0)))), ?_⟩)
  · (repeat (first | exact congrArg List.length h.1 | obtain ⟨_, h⟩ := h))
  · obtain ⟨n, rfl, hn, q⟩ := h
    have hx : EgV K (tVar 0) [some (.int n)] H (.int n) := gv_varE rfl (by unfold ValAt; rfl)
    refine pr_when (F := H) (b := false) (et_is (et_not (et_test (ev_isWith hx ev_c (ev_is (ev_int (g := fun i j => .int (i - j)) (i := 4) (j := 1) ev_c ev_c) rfl)))) ?_) (fun h => Bool.noConfusion h) (fun _ => pr_ret (ev_var rfl) q) H (Ex.refl H)
    show (!(decide ((0 : Int) ≤ (n : Int)) && decide ((n : Int) ≤ 4 - 1))) = false
    simp
    omega
theorem sc_Desk_rules_in : FnScope ["self", "value", "found"] ["self", "value"] d_Desk_rules_in.scope := ⟨rfl, rfl, rfl, by decide +kernel, rfl, by decide +kernel, by decide +kernel⟩
theorem ok_Desk_rules_in (T : Tx w K mg) : FnOk P w K mg base CX0 5 (He.ma K (He.ga K "Desk") "rules_in") (fdOf K (He.ma K (He.ga K "Desk") "rules_in")) ["self", "value"] (spRIn K) := by
  refine mkOk T.F_Desk_rules_in ⟨rfl, rfl⟩ sc_Desk_rules_in (fun vs H Q E h => ?_) (fun cdv A outer s H vs Q E hr h => ⟨_, (pss_cons (ps_set (i := 2) sc_Desk_rules_in.nd rfl (Or.inl rfl) (pe_ix ix_list (pe_fld (pv 0) rfl) (pe_call (ok_slot_of T) (hr.mono (by decide)) rfl T.g_slot_of T.kp_slot_of T.B_slot_of .nil pass0 (pa_cons (pv 1) pa_nil)) (fun _ _ => rfl))) (pss_cons (ps_if (pt_cmpR op_isN (pv 2) pe_non (nomark _)) (pss_one ps_never) pss_nil) (pss_one (ps_ret (pv 2))))), ?_⟩)
  · (repeat (first | exact congrArg List.length h.1 | obtain ⟨_, h⟩ := h))
  · obtain ⟨a, dx, rl, sl, ra, us, n, rfl, hn, h1, h2, h3, q⟩ := h
    have hat := atI_nat h3
    exact pr_asg (F := H) (v := .ref ra) (ev_op (ev_fld (v := .ref rl) (ev_var rfl) h1 T.c_Desk T.n_Desk_rules rfl) (ev_slot hn (ev_var rfl)) (rv_ixL (sq_of h2) hat)) (pr_when (b := false) (et_is (et_B (ev_isN (x := .ref ra) (ev_var rfl))) rfl) (fun h => Bool.noConfusion h) fun _ => pr_ret (ev_var rfl) q) H (Ex.refl H)
theorem sc_Desk_server_in : FnScope ["self", "value", "found"] ["self", "value"] d_Desk_server_in.scope := ⟨rfl, rfl, rfl, by decide +kernel, rfl, by decide +kernel, by decide +kernel⟩
theorem ok_Desk_server_in (T : Tx w K mg) : FnOk P w K mg base CX0 5 (He.ma K (He.ga K "Desk") "server_in") (fdOf K (He.ma K (He.ga K "Desk") "server_in")) ["self", "value"] (spSIn K) := by
  refine mkOk T.F_Desk_server_in ⟨rfl, rfl⟩ sc_Desk_server_in (fun vs H Q E h => ?_) (fun cdv A outer s H vs Q E hr h => ⟨_, (pss_cons (ps_set (i := 2) sc_Desk_server_in.nd rfl (Or.inl rfl) (pe_ix ix_list (pe_fld (pv 0) rfl) (pe_call (ok_slot_of T) (hr.mono (by decide)) rfl T.g_slot_of T.kp_slot_of T.B_slot_of .nil pass0 (pa_cons (pv 1) pa_nil)) (fun _ _ => rfl))) (pss_cons (ps_if (pt_cmpR op_isN (pv 2) pe_non (nomark _)) (pss_one ps_never) pss_nil) (pss_one (ps_ret (pv 2))))), ?_⟩)
  · (repeat (first | exact congrArg List.length h.1 | obtain ⟨_, h⟩ := h))
  · obtain ⟨a, dx, rl, sl, ra, us, n, rfl, hn, h1, h2, h3, q⟩ := h
    have hat := atI_nat h3
    exact pr_asg (F := H) (v := .ref ra) (ev_op (ev_fld (v := .ref sl) (ev_var rfl) h1 T.c_Desk T.n_Desk_servers rfl) (ev_slot hn (ev_var rfl)) (rv_ixL (sq_of h2) hat)) (pr_when (b := false) (et_is (et_B (ev_isN (x := .ref ra) (ev_var rfl))) rfl) (fun h => Bool.noConfusion h) fun _ => pr_ret (ev_var rfl) q) H (Ex.refl H)
end
end Sl
/-! ## SlAbout -/
namespace Sl
open PySem PySem.Spec PyProof.Rows L2 Evl
open R7239g.Spec (Err Res Plain natOrNull historyPlain rulesPlain signInResult numberIn andThen)
theorem val_opt {K : PySem.W.Frag} {H : Hp} {o : Option Nat} : ValAt K H (optV o) (gv (natOrNull o)) := by
  cases o with
  | none => show ValAt K H .non .null; unfold ValAt; rfl
  | some n => show ValAt K H (.int n) (gv (R7239g.Spec.nat n)); show ValAt K H (.int n) (.int n); unfold ValAt; rfl
/-- what a call about rules returns -/
def arRes (door : Nat) (r : SR) (l : List Val) : Res Plain :=
  if door = 1 then .ok (rulesPlain r) else if door = 2 then .ok (historyPlain (R7239g.Spec.theft r)) else if door = 3 then .ok (natOrNull (R7239g.Spec.longest r)) else if door = 4 then .ok (historyPlain (R7239g.Spec.foist r)) else if door = 5 then .ok (natOrNull (R7239g.Spec.greatestLife r)) else signInResult r (argV l 0) (argV l 1) (argV l 2)
def AnsPost (K : PySem.W.Frag) (H : Hp) (res : Res Plain) (Q : VK) (E : XK) : Prop := (∀ e, res = .error e → Out K H E e) ∧ ∀ p, res = .ok p → ∀ v H', Ex H H' → ValAt K H' v (gv p) → Q v H'
def spAR (K : PySem.W.Frag) : Sp := fun vs H Q E => ∃ (door : Nat) (ra al : Addr) (r : SR) (us : List V) (args : List Val), vs = [.int door, .ref ra, .ref al] ∧ 1 ≤ door ∧ door ≤ 6 ∧ RulesAt K H ra r ∧ H al = some (.lst us) ∧ ValsAt K H us args ∧ (door = 6 → 3 ≤ args.length) ∧ AnsPost K H (arRes door r args) Q E
section
variable {K : PySem.W.Frag} {σ : L2.St} {F : Hp} {te tf tg to : TE} {tz : TS} {D : Ends} {E : XK} {a : Addr} {r : SR}
theorem pr_rulV {m : Str} {f : SR → Val} (hm : ∀ dx fs, F a = some (.ins (He.ga K "Rules") dx fs) → RulesAt K F a r → fs.lookup m = none) (hr : RulesAt K F a r) (ho : Ev to σ F (.ref a)) (q : ∀ v H', Ex F H' → ValAt K H' v (f r) → D.rt v H') : Pr (tRet (tMeth (He.ga K "Rules") m (spV K f) [] E to tNil)) D σ F := fun H x => by
  have hr' := hr
  obtain ⟨rk, dr, h1⟩ := hr
  exact ho H x _ fun H2 x2 => ⟨a, dr, _, rfl, x2 _ _ (x _ _ h1), hm _ _ h1 hr', ⟨a, r, rfl, hr'.mono (x.trans x2), fun v H' e hv => q v H' ((x.trans x2).trans e) hv⟩⟩
theorem pr_rulR {m : Str} {f : SR → V} (hm : ∀ dx fs, F a = some (.ins (He.ga K "Rules") dx fs) → RulesAt K F a r → fs.lookup m = none) (hr : RulesAt K F a r) (ho : Ev to σ F (.ref a)) (q : ∀ H', Ex F H' → D.rt (f r) H') : Pr (tRet (tMeth (He.ga K "Rules") m (spR K f) [] E to tNil)) D σ F := fun H x => by
  have hr' := hr
  obtain ⟨rk, dr, h1⟩ := hr
  exact ho H x _ fun H2 x2 => ⟨a, dr, _, rfl, x2 _ _ (x _ _ h1), hm _ _ h1 hr', ⟨a, r, rfl, hr'.mono (x.trans x2), fun H' e => q H' ((x.trans x2).trans e)⟩⟩
theorem pr_signE {i j : Nat} {th : TE} {sp : Sp} (hr : RulesAt K F a r) (ho : Ev to σ F (.ref a)) (h1 : Ev te σ F (.int i)) (h2 : Ev tf σ F (.int j)) (h3 : Er th σ F) : Pr (tRet (tMeth (He.ga K "Rules") "sign_in" sp [] E to (tCons te (tCons tf (tCons th tNil))))) D σ F := fun H x => by
  obtain ⟨rk, dr, k⟩ := hr
  exact ho H x _ fun H1 x1 => ⟨a, dr, _, rfl, x1 _ _ (x _ _ k), rfl, h1 H1 (x.trans x1) _ fun H2 x2 => h2 H2 ((x.trans x1).trans x2) _ fun H3 x3 => h3 H3 (((x.trans x1).trans x2).trans x3) _⟩
theorem pr_sign {i j k : Nat} {th : TE} (hr : RulesAt K F a r) (ho : Ev to σ F (.ref a)) (h1 : Ev te σ F (.int i)) (h2 : Ev tf σ F (.int j)) (h3 : Ev th σ F (.int k)) (q : ∀ x H', Ex F H' → ValAt K H' x (gv (R7239g.Spec.historyPlain (if R7239g.Spec.usable r i j k then some (R7239g.Spec.signIn r i j k) else none))) → D.rt x H') : Pr (tRet (tMeth (He.ga K "Rules") "sign_in" (spSign K) [] E to (tCons te (tCons tf (tCons th tNil))))) D σ F := fun H x => by
  have hr' := hr
  obtain ⟨rk, dr, z⟩ := hr
  exact ho H x _ fun H1 x1 => ⟨a, dr, _, rfl, x1 _ _ (x _ _ z), rfl, h1 H1 (x.trans x1) _ fun H2 x2 => h2 H2 ((x.trans x1).trans x2) _ fun H3 x3 => h3 H3 (((x.trans x1).trans x2).trans x3) _ fun H4 x4 =>
    ⟨a, r, i, j, k, rfl, hr'.mono ((((x.trans x1).trans x2).trans x3).trans x4), fun v H' e hv => q v H' (((((x.trans x1).trans x2).trans x3).trans x4).trans e) hv⟩⟩
end
theorem andThen_okP {α β : Type} {x : α} {f : α → Res β} : andThen (.ok x) f = f x := rfl
local macro_rules
  | `(tactic| walk_at "ev") => `(tactic| first
    | exact ev_c
    | exact ev_var rfl
    | ((with_reducible refine' ev_fld ?k1 ?k2 ?k3 ?k4 ?k5); (case k1 => walk_at "ev"); (case k2 => assumption); (case k3 => exact Tx.cl (by assumption) rfl); (case k4 => exact Tx.na (by assumption) rfl); (case k5 => rfl))
    | (refine' ev_st ?k1 ?k2 ?k3; (case k1 => walk_at "ev"); (case k2 => assumption); (case k3 => assumption))
    | ((with_reducible refine' ev_ixT ?k1 ?k2 ?k3 ?k4); (case k1 => walk_at "ev"); (case k2 => walk_at "ev"); (case k3 => assumption); (case k4 => first | assumption | rfl))
    | (refine' ev_isN ?k1; (case k1 => walk_at "ev"))
    | (refine' ev_notN ?k1; (case k1 => walk_at "ev"))
    | (refine' ev_int ?k1 ?k2; (case k1 => walk_at "ev"); (case k2 => walk_at "ev"))
    | ((with_reducible refine' ev_sc ?k1 ?k2 ?k3); (case k1 => walk_at "ev"); (case k2 => walk_at "ev"); (case k3 => rfl))
    | ((with_reducible refine' ev_scn ?k1 ?k2 ?k3); (case k1 => walk_at "ev"); (case k2 => walk_at "ev"); (case k3 => rfl))
    | ((with_reducible refine' ev_notV ?k1); (case k1 => walk_at "ev"))
    | ((with_reducible refine' ev_andV ?k1 ?k2); (case k1 => walk_at "ev"); (case k2 => intro _; walk_at "ev"))
    | ((with_reducible refine' ev_orV ?k1 ?k2); (case k1 => walk_at "ev"); (case k2 => intro _; walk_at "ev"))
    | ((with_reducible refine' et_test ?k1); (case k1 => walk_at "ev"))
    | ((with_reducible refine' et_B ?k1); (case k1 => walk_at "ev"))
    | ((with_reducible refine' et_and ?k1 ?k2); (case k1 => walk_at "ev"); (case k2 => intro _; walk_at "ev"))
    | ((with_reducible refine' et_or ?k1 ?k2); (case k1 => walk_at "ev"); (case k2 => intro _; walk_at "ev"))
    | ((with_reducible refine' et_not ?k1); (case k1 => walk_at "ev"))
    | exact ea_nil
    | ((with_reducible refine' ea_cons ?k1 ?k2); (case k1 => walk_at "ev"); (case k2 => walk_at "ev")))
section
variable {P : Program} {w : World} {K : PySem.W.Frag} {mg : Str → Option Value} {base : Heap}
theorem sc_about_rules : FnScope ["door", "rules", "arguments", "scan", "keying"] ["door", "rules", "arguments"] d_about_rules.scope := ⟨rfl, rfl, rfl, by decide +kernel, rfl, by decide +kernel, by decide +kernel⟩
theorem ok_about_rules (T : Tx w K mg) : FnOk P w K mg base (L2N.CX P w) 6 (He.ga K "about_rules") (fdOf K (He.ga K "about_rules")) ["door", "rules", "arguments"] (spAR K) := by
  refine mkOkX T.F_about_rules sc_about_rules (fun vs H Q E h => ?_) (fun cdv A outer s H vs Q E hr h => ⟨_, (pss_cons (ps_if (pt_cmpR op_eq (pv 0) pe_int (nomark _)) (pss_one (ps_ret (pe_meth0 (pv 1) T.c_Rules T.m_Rules_told (ok_Rules_told T) (hr.mono (by decide)) T.B_Rules_told .nil pass0))) pss_nil) (pss_cons (ps_if (pt_cmpR op_eq (pv 0) pe_int (nomark _)) (pss_one (ps_ret (pe_meth0 (pv 1) T.c_Rules T.m_Rules_theft (ok_Rules_theft T) (hr.mono (by decide)) T.B_Rules_theft .nil pass0))) pss_nil) (pss_cons (ps_if (pt_cmpR op_eq (pv 0) pe_int (nomark _)) (pss_one (ps_ret (pe_meth0 (pv 1) T.c_Rules T.m_Rules_longest (ok_Rules_longest T) (hr.mono (by decide)) T.B_Rules_longest .nil pass0))) pss_nil) (pss_cons (ps_if (pt_cmpR op_eq (pv 0) pe_int (nomark _)) (pss_one (ps_ret (pe_meth0 (pv 1) T.c_Rules T.m_Rules_foist (ok_Rules_foist T) (hr.mono (by decide)) T.B_Rules_foist .nil pass0))) pss_nil) (pss_cons (ps_if (pt_cmpR op_eq (pv 0) pe_int (nomark _)) (pss_one (ps_ret (pe_meth0 (pv 1) T.c_Rules T.m_Rules_greatest_life (ok_Rules_greatest_life T) (hr.mono (by decide)) T.B_Rules_greatest_life .nil pass0))) pss_nil) (pss_cons (ps_set (i := 3) sc_about_rules.nd rfl (Or.inl rfl) (pe_call (ok_need_within T) (hr.mono (by decide)) rfl T.g_need_within T.kp_need_within T.B_need_within .nil (L2N.passes_call (L2N.takes_of rfl rfl rfl rfl) (fun _ _ _ _ h => h)) (pa_cons (pe_ix ix_list (pv 2) pe_int (fun _ _ => rfl)) (pa_cons pe_str (pa_cons pe_int (pa_cons (pe_gc rfl T.i_MOST_TICKS_rules) pa_nil)))))) (pss_cons (ps_set (i := 4) sc_about_rules.nd rfl (Or.inl rfl) (pe_call (ok_need_within T) (hr.mono (by decide)) rfl T.g_need_within T.kp_need_within T.B_need_within .nil (L2N.passes_call (L2N.takes_of rfl rfl rfl rfl) (fun _ _ _ _ h => h)) (pa_cons (pe_ix ix_list (pv 2) pe_int (fun _ _ => rfl)) (pa_cons pe_str (pa_cons pe_int (pa_cons (pe_gc rfl T.i_MOST_TICKS_rules) pa_nil)))))) (pss_one (ps_ret (pe_meth (pv 1) T.c_Rules T.m_Rules_sign_in (ok_Rules_sign_in T) (hr.mono (by decide)) T.B_Rules_sign_in .nil pass0 (pa_cons (pv 3) (pa_cons (pv 4) (pa_cons (pe_call (ok_need_within T) (hr.mono (by decide)) rfl T.g_need_within T.kp_need_within T.B_need_within .nil (L2N.passes_call (L2N.takes_of rfl rfl rfl rfl) (fun _ _ _ _ h => h)) (pa_cons (pe_ix ix_list (pv 2) pe_int (fun _ _ => rfl)) (pa_cons pe_str (pa_cons pe_int (pa_cons (pe_gc rfl T.i_MOST_TICKS_rules) pa_nil))))) pa_nil))))))))))))), ?_⟩)
  · (repeat (first | exact congrArg List.length h.1 | obtain ⟨_, h⟩ := h))
  · obtain ⟨door, ra, al, r, us, args, rfl, hd1, hd6, hr, hal, hvs, hl3, qe, qo⟩ := h
    have hr' := hr
    obtain ⟨rk, dr, h1⟩ := hr
    have hm : ∀ m : Str, (List.lookup m (match H ra with | some (.ins _ _ fs) => fs | _ => []) = none) → ∀ dx fs, H ra = some (.ins (He.ga K "Rules") dx fs) → RulesAt K H ra r → fs.lookup m = none := fun m hm dx fs e _ => by rw [e] at hm; exact hm
    have eqd : ∀ n : Nat, EvT (tB (tOp rEq (tVar 0) (tC (.int n)))) [some (.int door), some (.ref ra), some (.ref al), none, none] H (decide (door = n)) := fun n => et_is (et_B (ev_sc (x := .int door) (y := .int n) (ev_var rfl) ev_c rfl)) decN
    refine pr_when (F := H) (b := decide (door = 1)) (eqd 1) (fun hb => ?_) (fun hb1 => ?_) H (Ex.refl H)
    · obtain rfl := of_decide_eq_true hb
      exact pr_rulV (hm _ (by rw [h1]; rfl)) hr' (ev_var rfl) (qo _ rfl)
    refine pr_when (b := decide (door = 2)) (eqd 2) (fun hb => ?_) (fun hb2 => ?_)
    · obtain rfl := of_decide_eq_true hb
      exact pr_rulV (hm _ (by rw [h1]; rfl)) hr' (ev_var rfl) (qo _ rfl)
    refine pr_when (b := decide (door = 3)) (eqd 3) (fun hb => ?_) (fun hb3 => ?_)
    · obtain rfl := of_decide_eq_true hb
      exact pr_rulR (hm _ (by rw [h1]; rfl)) hr' (ev_var rfl) fun H' e => qo _ rfl _ H' e val_opt
    refine pr_when (b := decide (door = 4)) (eqd 4) (fun hb => ?_) (fun hb4 => ?_)
    · obtain rfl := of_decide_eq_true hb
      exact pr_rulV (hm _ (by rw [h1]; rfl)) hr' (ev_var rfl) (qo _ rfl)
    refine pr_when (b := decide (door = 5)) (eqd 5) (fun hb => ?_) (fun hb5 => ?_)
    · obtain rfl := of_decide_eq_true hb
      exact pr_rulR (hm _ (by rw [h1]; rfl)) hr' (ev_var rfl) fun H' e => qo _ rfl _ H' e val_opt
    have hd : door = 6 := by
      have := of_decide_eq_false hb1; have := of_decide_eq_false hb2; have := of_decide_eq_false hb3; have := of_decide_eq_false hb4; have := of_decide_eq_false hb5
      omega
    subst hd
    have hl := hl3 rfl
    obtain ⟨v0, hv0, hx0⟩ := hvs.get (i := 0) (by omega)
    obtain ⟨v1, hv1, hx1⟩ := hvs.get (i := 1) (by omega)
    obtain ⟨v2, hv2, hx2⟩ := hvs.get (i := 2) (by omega)
    have arg : ∀ {σ : L2.St} {i : Nat} {v : V} {x : Val}, σ[2]? = some (some (.ref al)) → us[i]? = some v → ValAt K H v x → EgV K (tOp (rIxL K) (tVar 2) (tC (.int (i : Int)))) σ H x := fun e1 e2 e3 => eg_ev (ev_arg (ev_var e1) hal (atI_nat e2)) fun H' e => e3.mono e
    have hR : arRes 6 r args = signInResult r (argV args 0) (argV args 1) (argV args 2) := rfl
    rw [hR] at qe qo
    unfold signInResult at qe qo
    rw [show R7239g.Spec.timeMost = 50 from rfl] at qe qo
    cases n1 : numberIn "scan" 0 50 (argV args 0) with
    | error e => exact pr_asgE (nw_er (arg rfl hv0 hx0) ev_c ev_c ev_c (by decide) (by decide +kernel) n1 (qe e (by rw [n1]; rfl)))
    | ok i1 =>
    rw [n1, andThen_okP] at qe qo
    refine pr_asg (nw_ok (arg rfl hv0 hx0) ev_c ev_c ev_c (by decide) (by decide +kernel) n1) ?_
    cases n2 : numberIn "type" 0 50 (argV args 1) with
    | error e => exact pr_asgE (nw_er (arg rfl hv1 hx1) ev_c ev_c ev_c (by decide) (by decide +kernel) n2 (qe e (by rw [n2]; rfl)))
    | ok i2 =>
    rw [n2, andThen_okP] at qe qo
    refine pr_asg (nw_ok (arg rfl hv1 hx1) ev_c ev_c ev_c (by decide) (by decide +kernel) n2) ?_
    cases n3 : numberIn "collect" 0 50 (argV args 2) with
    | error e => exact pr_signE hr' (ev_var rfl) (ev_var rfl) (ev_var rfl) (nw_er (arg rfl hv2 hx2) ev_c ev_c ev_c (by decide) (by decide +kernel) n3 (qe e (by rw [n3]; rfl)))
    | ok i3 =>
    rw [n3, andThen_okP] at qe qo
    exact pr_sign hr' (ev_var rfl) (ev_var rfl) (ev_var rfl) (nw_ok (arg rfl hv2 hx2) ev_c ev_c ev_c (by decide) (by decide +kernel) n3) fun x H' e hv => qo _ rfl x H' e hv
end
end Sl
/-! ## SlAbS -/
namespace Sl
open PySem PySem.Spec PyProof.Rows L2 Evl
open R7239g.Spec (Err Res Plain natOrNull historyPlain rulesPlain deskPlain signInResult numberIn andThen placeArg signedAs seesCode seesNumber rangeErrorWith)
/-- what a call about a server returns, and the states after it -/
def asRes (door : Nat) (d : SD) (l : List Val) : Res Plain :=
  if door = 16 then .ok (deskPlain d) else if door = 17 then andThen (placeArg "browser" d (argV l 0)) fun b => .ok (natOrNull (signedAs d b)) else if door = 18 then andThen (placeArg "phone" d (argV l 0)) fun b => .ok (.arr ((R7239g.Spec.codesOf d b).map R7239g.Spec.nat)) else andThen (placeArg "phone" d (argV l 0)) fun b => .ok (.arr ((R7239g.Spec.numbersOf d b).map R7239g.Spec.nat))
def spAS (K : PySem.W.Frag) : Sp := fun vs H Q E => ∃ (door : Nat) (a l al : Addr) (r : SR) (d : SD) (ds : List SD) (us : List V) (args : List Val), vs = [.int door, .ref a, .ref al] ∧ 15 ≤ door ∧ door ≤ 19 ∧ SrvAt K H a l r (d :: ds) ∧ d.rules = r ∧ Wd d ∧ H al = some (.lst us) ∧ ValsAt K H us args ∧ (17 ≤ door → 1 ≤ args.length) ∧
  (door = 15 → (ds ≠ [] → ∀ v H', Bt l H H' → SrvAt K H' a l r ds → ValAt K (nw H H') v .nothing → Q v H') ∧ (ds = [] → Out K H E (rangeErrorWith "nothing to undo"))) ∧
  (16 ≤ door → (∀ e, asRes door d args = .error e → Out K H E e) ∧ ∀ p, asRes door d args = .ok p → ∀ v H', Ex H H' → ValAt K H' v (gv p) → Q v H')
section
variable {K : PySem.W.Frag} {σ : L2.St} {F : Hp} {te tf tg to ta : TE} {tz : TS} {D : Ends} {E : XK} {a l : Addr} {r : SR} {d : SD} {ds : List SD}
theorem pr_undo (hS : SrvAt K F a l r (d :: ds)) (ho : Ev to σ F (.ref a)) (k : ds ≠ [] → ∀ H', Bt l F H' → SrvAt K H' a l r ds → tz D σ H') (qe : ds = [] → Out K F E (rangeErrorWith "nothing to undo")) :
    Pr (tSeq (tDrop (tMeth (He.ga K "Server") "undo" (spUndo K) [] E to tNil)) tz) D σ F := fun H x => by
  have hS' := hS
  obtain ⟨dx, ra, vs, h1, _⟩ := hS
  refine ho H x _ fun H2 x2 => ⟨a, dx, _, rfl, x2 _ _ (x _ _ h1), rfl, ?_⟩
  have y := x.trans x2
  exact ⟨a, l, r, d, ds, rfl, hS'.mono y, fun h H' bt hs => k h H' ((Bt.of y).trans bt) hs, fun h => (qe h).mono y⟩
theorem pr_told (hs : Sv K F a d) (hw : Wd d) (ho : Ev to σ F (.ref a)) (q : ∀ v H', Ex F H' → ValAt K H' v (gv (deskPlain d)) → D.rt v H') : Pr (tRet (tMeth (He.ga K "Server") "told" (spTd K) [] E to tNil)) D σ F := fun H x => by
  have hs' := hs
  obtain ⟨dx, ra, l, us, t', h1, _⟩ := hs
  refine ho H x _ fun H2 x2 => ⟨a, dx, _, rfl, x2 _ _ (x _ _ h1), rfl, ?_⟩
  exact ⟨a, d, rfl, hs'.mono (x.trans x2), hw, fun u H' e hv => q u H' ((x.trans x2).trans e) (hv.mono nw_ex)⟩
theorem pr_siE {sp : Sp} (hs : Sv K F a d) (ho : Ev to σ F (.ref a)) (h : Er te σ F) : Pr (tRet (tMeth (He.ga K "Server") "signed_in" sp [] E to (tCons te tNil))) D σ F := fun H x => by
  obtain ⟨dx, ra, l, us, t', h1, _⟩ := hs
  exact ho H x _ fun H2 x2 => ⟨a, dx, _, rfl, x2 _ _ (x _ _ h1), rfl, h H2 (x.trans x2) _⟩
theorem pr_retL {xs : List V} (h : EvL te σ F xs) (q : ∀ p H', Ex F H' → H' p = some (.lst xs) → D.rt (.ref p) H') : Pr (tRet te) D σ F := fun H x => h H x _ fun p H1 hp e1 h1 => q p H1 (x.trans e1) h1
theorem pr_asgLr {i : Nat} {n : Nat} (h : Ev te σ F (.int n)) (hz : n ≤ 40000) (k : ∀ p H', Ex F H' → H' p = some (.lst (rgV 0 n)) → Pr tz D (σ.set i (some (.ref p))) H') : Pr (tSeq (tAsg (tLstRg (tRg1 te)) (gName i)) tz) D σ F := fun H x => h H x _ fun H1 x1 => ⟨n, rfl, RgOk.of_le (by omega) (by omega) (by omega) (by omega), fun p hp => k p _ ((x.trans x1).trans (Ex.new hp)) upd_same _ (Ex.refl _)⟩
end
theorem rgV_at {n i : Nat} {x : V} (h : (rgV 0 n)[i]? = some x) : x = .int (i : Int) ∧ i < n := by
  unfold rgV at h
  rw [List.getElem?_map] at h
  obtain ⟨y, h1, h2⟩ := Option.map_eq_some_iff.mp h
  obtain ⟨h3, h4⟩ := List.getElem?_eq_some_iff.mp h1
  rw [List.getElem_range] at h4
  subst h4
  rw [List.length_range] at h3
  exact ⟨by rw [← h2]; congr 1; omega, by omega⟩
theorem filt_no (l : List Nat) : l.filter (fun _ => false) = [] := List.filter_eq_nil_iff.mpr fun _ _ h => Bool.noConfusion h
theorem some_not {o : Option Nat} (h : o.isNone = true) : o.isSome = false := by cases o with | none => rfl | some n => cases h
theorem some_yes {o : Option Nat} (h : o.isNone = false) : o.isSome = true := by cases o with | none => cases h | some n => rfl
theorem rgV_len {n : Nat} : (rgV 0 n).length = n := by rw [rgV_length]; omega
theorem vals_ints {K : PySem.W.Frag} {H : Hp} : ∀ l : List Nat, ValsAt K H (l.map fun (i : Nat) => V.int (i : Int)) (Rust.givenAll (l.map R7239g.Spec.nat))
  | [] => by show ValsAt K H [] []; unfold ValsAt; rfl
  | i :: r => by
    show ValsAt K H (.int (i : Int) :: r.map _) (gv (R7239g.Spec.nat i) :: Rust.givenAll (r.map _))
    unfold ValsAt
    exact ⟨_, _, rfl, by show ValAt K H (.int (i : Int)) (.int i); unfold ValAt; rfl, vals_ints r⟩
local macro_rules
  | `(tactic| walk_at "ev") => `(tactic| first
    | exact ev_c
    | exact ev_var rfl
    | ((with_reducible refine' ev_fld ?k1 ?k2 ?k3 ?k4 ?k5); (case k1 => walk_at "ev"); (case k2 => assumption); (case k3 => exact Tx.cl (by assumption) rfl); (case k4 => exact Tx.na (by assumption) rfl); (case k5 => rfl))
    | (refine' ev_st ?k1 ?k2 ?k3; (case k1 => walk_at "ev"); (case k2 => assumption); (case k3 => assumption))
    | ((with_reducible refine' ev_ixT ?k1 ?k2 ?k3 ?k4); (case k1 => walk_at "ev"); (case k2 => walk_at "ev"); (case k3 => assumption); (case k4 => first | assumption | rfl))
    | (refine' ev_isN ?k1; (case k1 => walk_at "ev"))
    | (refine' ev_notN ?k1; (case k1 => walk_at "ev"))
    | (refine' ev_int ?k1 ?k2; (case k1 => walk_at "ev"); (case k2 => walk_at "ev"))
    | ((with_reducible refine' ev_sc ?k1 ?k2 ?k3); (case k1 => walk_at "ev"); (case k2 => walk_at "ev"); (case k3 => rfl))
    | ((with_reducible refine' ev_scn ?k1 ?k2 ?k3); (case k1 => walk_at "ev"); (case k2 => walk_at "ev"); (case k3 => rfl))
    | ((with_reducible refine' ev_notV ?k1); (case k1 => walk_at "ev"))
    | ((with_reducible refine' ev_andV ?k1 ?k2); (case k1 => walk_at "ev"); (case k2 => intro _; walk_at "ev"))
    | ((with_reducible refine' ev_orV ?k1 ?k2); (case k1 => walk_at "ev"); (case k2 => intro _; walk_at "ev"))
    | ((with_reducible refine' et_test ?k1); (case k1 => walk_at "ev"))
    | ((with_reducible refine' et_B ?k1); (case k1 => walk_at "ev"))
    | ((with_reducible refine' et_and ?k1 ?k2); (case k1 => walk_at "ev"); (case k2 => intro _; walk_at "ev"))
    | ((with_reducible refine' et_or ?k1 ?k2); (case k1 => walk_at "ev"); (case k2 => intro _; walk_at "ev"))
    | ((with_reducible refine' et_not ?k1); (case k1 => walk_at "ev"))
    | exact ea_nil
    | ((with_reducible refine' ea_cons ?k1 ?k2); (case k1 => walk_at "ev"); (case k2 => walk_at "ev")))
section
variable {P : Program} {w : World} {K : PySem.W.Frag} {mg : Str → Option Value} {base : Heap}
theorem sc_about_server : FnScope ["door", "server", "arguments", "phone", "numbers", "number"] ["door", "server", "arguments"] d_about_server.scope := ⟨rfl, rfl, rfl, by decide +kernel, rfl, by decide +kernel, by decide +kernel⟩
theorem ok_about_server (T : Tx w K mg) : FnOk P w K mg base (L2N.CX P w) 7 (He.ga K "about_server") (fdOf K (He.ga K "about_server")) ["door", "server", "arguments"] (spAS K) := by
  refine mkOkX T.F_about_server sc_about_server (fun vs H Q E h => ?_) (fun cdv A outer s H vs Q E hr h => ⟨_, (pss_cons (ps_if (pt_cmpR op_eq (pv 0) pe_int (nomark _)) (pss_cons (ps_expr (pe_meth0 (pv 1) T.c_Server T.m_Server_undo (ok_Server_undo T) (hr.mono (by decide)) T.B_Server_undo .nil (L2N.passes_call (L2N.takes_of rfl rfl rfl rfl) (fun _ _ _ _ h => h)))) (pss_one (ps_ret (pe_new0 T.noth.1 T.noth.2 (Tx.kp_Nothing T) rfl T.g_Nothing)))) pss_nil) (pss_cons (ps_if (pt_cmpR op_eq (pv 0) pe_int (nomark _)) (pss_one (ps_ret (pe_meth0 (pv 1) T.c_Server T.m_Server_told (ok_Server_told T) (hr.mono (by decide)) T.B_Server_told .nil pass0))) pss_nil) (pss_cons (ps_if (pt_cmpR op_eq (pv 0) pe_int (nomark _)) (pss_one (ps_ret (pe_meth (pv 1) T.c_Server T.m_Server_signed_in (ok_Server_signed_in T) (hr.mono (by decide)) T.B_Server_signed_in .nil pass0 (pa_cons (pe_meth (pv 1) T.c_Server T.m_Server_need_hand (ok_Server_need_hand T) (hr.mono (by decide)) T.B_Server_need_hand .nil (L2N.passes_call (L2N.takes_of rfl rfl rfl rfl) (fun _ _ _ _ h => h)) (pa_cons (pe_ix ix_list (pv 2) pe_int (fun _ _ => rfl)) (pa_cons pe_str pa_nil))) pa_nil)))) pss_nil) (pss_cons (ps_set (i := 3) sc_about_server.nd rfl (Or.inr rfl) (pe_meth (pv 1) T.c_Server T.m_Server_need_hand (ok_Server_need_hand T) (hr.mono (by decide)) T.B_Server_need_hand .nil (L2N.passes_call (L2N.takes_of rfl rfl rfl rfl) (fun _ _ _ _ h => h)) (pa_cons (pe_ix ix_list (pv 2) pe_int (fun _ _ => rfl)) (pa_cons pe_str pa_nil)))) (pss_cons (ps_set (i := 4) sc_about_server.nd rfl (Or.inl rfl) (pe_listRg rfl (by rfl) T.f_list (prg_1 (by rfl) T.f_range (pe_callB call_len (by rfl) T.f_len (by decide +kernel) (pa_cons (pe_fld (pe_meth0 (pv 1) T.c_Server T.m_Server_state (ok_Server_state T) (hr.mono (by decide)) T.B_Server_state .nil pass0) rfl) pa_nil))))) (pss_cons (ps_if (pt_cmpR op_eq (pv 0) pe_int (nomark _)) (pss_one (ps_ret (pe_lc (own := [("number", 5)]) (g := gName 5) (tt := tTest (tMeth (He.ga K "Server") "sees_code" (spSC K R7239g.Spec.seesCode) [] _ (tVar 1) (tCons (tVar 3) (tCons (tVar 5) tNil)))) (by rfl) sc_about_server.nd (pi_list (pv 4)) (blkOk_by (own := [("number", 5)]) (N := ["door", "server", "arguments", "phone", "numbers", "number"]) (sc := d_about_server.scope) (by decide +kernel)) (fun _ _ _ _ _ => pg_name (i := 5) sc_about_server.nd rfl (Or.inl rfl)) (fun _ _ _ _ _ => pts_one (pt_val (pe_meth (pv 1) T.c_Server T.m_Server_sees_code (ok_Server_sees_code T) (hr.mono (by decide)) T.B_Server_sees_code .nil pass0 (pa_cons (pv 3) (pa_cons (pv 5) pa_nil))))) (fun _ _ _ _ _ => (pv 5))))) pss_nil) (pss_cons (ps_if (pt_cmpR op_isN (pe_fld (pe_fld (pv 1) rfl) rfl) pe_non (nomark _)) (pss_one (ps_ret (pe_lst pa_nil))) pss_nil) (pss_one (ps_ret (pe_lc (own := [("number", 5)]) (g := gName 5) (tt := tTest (tMeth (He.ga K "Server") "sees_number" (spSC K R7239g.Spec.seesNumber) [] _ (tVar 1) (tCons (tVar 3) (tCons (tVar 5) tNil)))) (by rfl) sc_about_server.nd (pi_list (pv 4)) (blkOk_by (own := [("number", 5)]) (N := ["door", "server", "arguments", "phone", "numbers", "number"]) (sc := d_about_server.scope) (by decide +kernel)) (fun _ _ _ _ _ => pg_name (i := 5) sc_about_server.nd rfl (Or.inl rfl)) (fun _ _ _ _ _ => pts_one (pt_val (pe_meth (pv 1) T.c_Server T.m_Server_sees_number (ok_Server_sees_number T) (hr.mono (by decide)) T.B_Server_sees_number .nil pass0 (pa_cons (pv 3) (pa_cons (pv 5) pa_nil))))) (fun _ _ _ _ _ => (pv 5)))))))))))), ?_⟩)
  · (repeat (first | exact congrArg List.length h.1 | obtain ⟨_, h⟩ := h))
  · obtain ⟨door, a, l, al, r, d, ds, us, args, rfl, hd1, hd2, hS, hr, hw, hal, hvs, hl1, q15, q16⟩ := h
    have hs := hS.sv hr
    obtain ⟨dx, ra, vs, h1, h2, h3, ws, t, rfl, hst, h5⟩ := id hS
    obtain ⟨rk, dr, hra⟩ := h2
    obtain ⟨ds', lt, st, ls, ss, g1, g2, g3, g4, g5⟩ := id hst
    have eqd : ∀ (n : Nat) (x y z : Option V) (G : Hp), EvT (tB (tOp rEq (tVar 0) (tC (.int n)))) [some (.int door), some (.ref a), some (.ref al), x, y, z] G (decide (door = n)) := fun n _ _ _ _ => et_is (et_B (ev_sc (x := .int door) (y := .int n) (ev_var rfl) ev_c rfl)) decN
    refine pr_when (F := H) (b := decide (door = 15)) (eqd 15 _ _ _ _) (fun hb => ?_) (fun hb15 => ?_) H (Ex.refl H)
    · obtain ⟨q1, q2⟩ := q15 (of_decide_eq_true hb)
      refine pr_undo hS (ev_var rfl) (fun h H2 bt hs2 => ?_) q2
      have hl2 : H2 l ≠ none := by obtain ⟨_, _, _, _, _, z, _⟩ := hs2; rw [z]; simp
      exact pr_noth (F := H2) (SrvAt.dom hl2 bt) (fun v H3 x3 hv => q1 h v H3 (bt.trans (Bt.of x3)) (hs2.mono x3) hv) H2 (Ex.refl H2)
    have hb15 := of_decide_eq_false hb15
    obtain ⟨qe, qo⟩ := q16 (by omega)
    refine pr_when (b := decide (door = 16)) (eqd 16 _ _ _ _) (fun hb => ?_) (fun hb16 => ?_)
    · obtain rfl := of_decide_eq_true hb
      exact pr_told hs hw (ev_var rfl) (qo _ rfl)
    have hb16 := of_decide_eq_false hb16
    obtain ⟨v0, hv0, hx0⟩ := hvs.get (i := 0) (by have := hl1 (by omega); omega)
    have hat0 := atI_nat hv0
    have arg0 : ∀ σ : L2.St, σ[2]? = some (some (.ref al)) → Ev (tOp (rIxL K) (tVar 2) (tC (.int 0))) σ H v0 := fun σ e => ev_arg (ev_var e) hal hat0
    refine pr_when (b := decide (door = 17)) (eqd 17 _ _ _ _) (fun hb => ?_) (fun hb17 => ?_)
    · obtain rfl := of_decide_eq_true hb
      have hR : asRes 17 d args = andThen (placeArg "browser" d (argV args 0)) fun b => .ok (natOrNull (signedAs d b)) := rfl
      rw [hR] at qe qo
      cases hp : placeArg "browser" d (argV args 0) with
      | error e => exact pr_siE hs (ev_var rfl) (nh_er hs (ev_var rfl) (arg0 _ rfl) hx0 (.inl rfl) hp (qe e (by rw [hp]; rfl)))
      | ok b =>
        rw [hp, andThen_okP] at qo
        exact pr_ret (ev_si hs hw (num_le hp).2 (ev_var rfl) (nh_ok hs (ev_var rfl) (arg0 _ rfl) hx0 (.inl rfl) hp)) fun H' e => qo _ rfl _ H' e val_opt
    have hb17 := of_decide_eq_false hb17
    have hR : asRes door d args = andThen (placeArg "phone" d (argV args 0)) fun b => .ok (.arr ((if door = 18 then R7239g.Spec.codesOf d b else R7239g.Spec.numbersOf d b).map R7239g.Spec.nat)) := by
      unfold asRes
      rw [if_neg hb16, if_neg hb17]
      by_cases h : door = 18
      · rw [if_pos h]; simp only [if_pos h]
      · rw [if_neg h]; simp only [if_neg h]
    rw [hR] at qe qo
    cases hp : placeArg "phone" d (argV args 0) with
    | error e => exact pr_asgE (nh_er hs (ev_var rfl) (arg0 _ rfl) hx0 (.inr rfl) hp (qe e (by rw [hp]; rfl)))
    | ok p =>
    rw [hp, andThen_okP] at qo
    have len := g3.len
    have hll := hw.ll
    refine pr_asg (nh_ok hs (ev_var rfl) (arg0 _ rfl) hx0 (.inr rfl) hp) ?_
    refine pr_asgLr (n := d.logins.length) (ev_is (ev_len2T (xs := ls) (ev_fld (v := .ref lt) (ev_st (ev_var rfl) h1 h3) g1 T.c_State T.n_State_logins rfl) (st_of g2)) (by rw [len])) (by omega) fun pn H1 x1 hpn => ?_
    have hs1 := hs.mono x1
    have fin : ∀ (f : Nat → Bool) (u : V) (G : Hp) (z : Addr), Ex H G → G z = some (.lst (given (rgV 0 d.logins.length).length f fun i => .int (i : Int))) → (if door = 18 then R7239g.Spec.codesOf d p else R7239g.Spec.numbersOf d p) = (List.range d.logins.length).filter f → ValAt K G (.ref z) (gv (.arr ((if door = 18 then R7239g.Spec.codesOf d p else R7239g.Spec.numbersOf d p).map R7239g.Spec.nat))) := fun f u G z eG hz hf => by
      rw [hf]
      show ValAt K G (.ref z) (.list (Rust.givenAll _))
      unfold ValAt
      unfold given at hz
      rw [rgV_len] at hz
      exact ⟨z, _, rfl, hz, vals_ints _⟩
    refine pr_when (b := decide (door = 18)) (eqd 18 _ _ _ _) (fun hb => ?_) (fun hb18 => ?_)
    · have hb := of_decide_eq_true hb
      refine pr_retL (el_lcL (fun i => seesCode d p i) (fun i => .int (i : Int)) (ev_var rfl) (sq_of hpn) (by rw [rgV_len]; omega) (fun x => rfl) (fun i x H2 e2 hi => ?_) (fun i x H2 e2 hi _ => ?_)) fun z H' e hz => qo _ rfl _ H' (x1.trans e) (fin _ .non H' z (x1.trans e) hz (by rw [if_pos hb]; rfl))
      · obtain ⟨rfl, hin⟩ := rgV_at hi
        exact et_test (ev_spsc rfl (fun _ _ => rfl) (hs1.mono e2) hin hll (ev_var rfl) (ev_var rfl) (ev_var rfl))
      · obtain ⟨rfl, hin⟩ := rgV_at hi
        exact ev_var rfl
    have hb18 := of_decide_eq_false hb18
    have hra1 := x1 _ _ hra
    have h11 := x1 _ _ h1
    subst hr
    refine pr_when (b := d.rules.number.isNone) (et_is (et_B (ev_isN (x := optV d.rules.number) (by walk_at "ev"))) opt_non) (fun hb => ?_) (fun hb => ?_)
    · refine pr_retL (el_lst ea_nil (by show 0 ≤ 100000; decide)) fun z H' e hz => qo _ rfl _ H' (x1.trans e) (fin (fun _ => false) .non H' z (x1.trans e) ?_ ?_)
      · rw [hz]; unfold given; rw [filt_no]; rfl
      · rw [if_neg hb18]; unfold R7239g.Spec.numbersOf
        rw [some_not hb, if_neg Bool.false_ne_true, filt_no]
    · refine pr_retL (el_lcL (fun i => seesNumber d p i) (fun i => .int (i : Int)) (ev_var rfl) (sq_of hpn) (by rw [rgV_len]; omega) (fun x => rfl) (fun i x H2 e2 hi => ?_) (fun i x H2 e2 hi _ => ?_)) fun z H' e hz => qo _ rfl _ H' (x1.trans e) (fin _ .non H' z (x1.trans e) hz ?_)
      · obtain ⟨rfl, hin⟩ := rgV_at hi
        exact et_test (ev_spsc rfl (fun _ _ => rfl) (hs1.mono e2) hin hll (ev_var rfl) (ev_var rfl) (ev_var rfl))
      · obtain ⟨rfl, hin⟩ := rgV_at hi
        exact ev_var rfl
      · rw [if_neg hb18]; unfold R7239g.Spec.numbersOf
        rw [some_yes hb, if_pos rfl]
end
end Sl
/-! ## SlRef -/
namespace Sl
open PySem PySem.Spec PyProof.Rows L2 Evl
open R7239g.Spec (Err)
def refO (e : Err) : List UInt8 := 1 :: UInt8.ofNat (Rust.classOf e.cls) :: RWire.writeText (errMsg e)
def spRO (K : PySem.W.Frag) : List (Addr × Obj) → Sp := fun pn vs H Q _ => ∃ (a : Addr) (oe : Obj) (d : Addr) (e : Err), vs = [.ref a] ∧ (a, oe) ∈ pn ∧ oe.cls = .ref (He.ga K "Refused") ∧ oe.dict = some d ∧ (∃ us, oe.data = .fields us) ∧ ErrAt H d e ∧ (errMsg e).length ≤ 5000000 ∧
  ∀ p H', H p = none → Ex H H' → H' p = some (.lst (bytesV (refO e))) → Q (.ref p) H'
theorem ev_xfW {σ : L2.St} {F : Hp} {te : TE} {pn : List (Addr × Obj)} {C a d : Addr} {oe : Obj} {f : Str} {fs : List (Str × V)} {v : V} (h : Ev te σ F (.ref a)) (hm : (a, oe) ∈ pn) (hc : oe.cls = .ref C) (hd : oe.dict = some d) (hf : ∃ us, oe.data = .fields us) (hx : F d = some (.xd fs)) (hl : fs.lookup f = some v) : Ev (tXfW pn C f te) σ F v := fun H1 e Q q =>
  h H1 e _ fun H2 e2 => ⟨a, oe, d, fs, v, rfl, hm, hc, hd, hf, e2 _ _ (e _ _ hx), hl, q H2 e2⟩
theorem cls_le (e : Err) : Rust.classOf e.cls ≤ 2 := by cases e.cls <;> decide
local macro_rules
  | `(tactic| walk_at "ev") => `(tactic| first
    | exact ev_c
    | exact ev_var rfl
    | (refine' ev_fld ?k1 ?k2 ?k3 ?k4 ?k5; (case k1 => walk_at "ev"); (case k2 => assumption); (case k3 => exact Tx.cl (by assumption) rfl); (case k4 => exact Tx.na (by assumption) rfl); (case k5 => rfl))
    | (refine' ev_meth ?k1 ?k2 ?k3 ?k4 ?k5; (case k1 => walk_at "ev"); (case k2 => assumption); (case k3 => rfl); (case k4 => walk_at "ev"); (case k5 => walk_at "sp"))
    | (refine' ev_callG ?k1 ?k2; (case k1 => walk_at "ev"); (case k2 => walk_at "sp"))
    | (refine' ev_isN ?k1; (case k1 => walk_at "ev"))
    | (refine' ev_notN ?k1; (case k1 => walk_at "ev"))
    | (refine' ev_int ?k1 ?k2; (case k1 => walk_at "ev"); (case k2 => walk_at "ev"))
    | (refine' ev_sc ?k1 ?k2 ?k3; (case k1 => walk_at "ev"); (case k2 => walk_at "ev"); (case k3 => rfl))
    | (refine' ev_scn ?k1 ?k2 ?k3; (case k1 => walk_at "ev"); (case k2 => walk_at "ev"); (case k3 => rfl))
    | (refine' ev_notV ?k1; (case k1 => walk_at "ev"))
    | (refine' ev_andV ?k1 ?k2; (case k1 => walk_at "ev"); (case k2 => intro _; walk_at "ev"))
    | (refine' ev_orV ?k1 ?k2; (case k1 => walk_at "ev"); (case k2 => intro _; walk_at "ev"))
    | (refine' et_test ?k1; (case k1 => walk_at "ev"))
    | (refine' et_B ?k1; (case k1 => walk_at "ev"))
    | (refine' et_and ?k1 ?k2; (case k1 => walk_at "ev"); (case k2 => intro _; walk_at "ev"))
    | (refine' et_or ?k1 ?k2; (case k1 => walk_at "ev"); (case k2 => intro _; walk_at "ev"))
    | (refine' et_not ?k1; (case k1 => walk_at "ev"))
    | exact ea_nil
    | (refine' ea_cons ?k1 ?k2; (case k1 => walk_at "ev"); (case k2 => walk_at "ev")))
local macro_rules
  | `(tactic| walk_at "sp") => `(tactic| first | exact spR_go (by assumption) | exact spExc_go (by assumption))
section
variable {P : Program} {w : World} {K : PySem.W.Frag} {mg : Str → Option Value} {base : Heap}
theorem sc_refusal_octets : FnScope ["refused"] ["refused"] d_refusal_octets.scope := ⟨rfl, rfl, rfl, by decide +kernel, rfl, by decide +kernel, by decide +kernel⟩
theorem hk_refusal_octets (T : Tx w K mg) : FnW P w K mg base CX0 3 (He.ga K "refusal_octets") (fdOf K (He.ga K "refusal_octets")) ["refused"] (spRO K) := by
  refine mkHk T.F_refusal_octets sc_refusal_octets (fun pn vs H Q E h => ?_) (fun cdv A outer s H vs Q E pn hot hr h => ⟨_, (pss_one (ps_ret (pe_op op_cat (pe_lst (pa_cons pe_int (pa_cons (pe_xfW T.xfc T.refm.mn (pv 0)) pa_nil))) (pe_callW (hk_text_octets T) (hr.mono (by decide)) hot rfl T.g_text_octets T.kp_text_octets T.B_text_octets pass0 (pa_cons (pe_xfW T.xfc T.refm.ms (pv 0)) pa_nil))))), ?_⟩)
  · (repeat (first | exact congrArg List.length h.1 | obtain ⟨_, h⟩ := h))
  · obtain ⟨a, oe, d, e, rfl, hm, hc, hd, hf, ⟨hx, hp⟩, hz, q⟩ := h
    have e1 : bytesV (refO e) = [.int 1, .int (Rust.classOf e.cls)] ++ bytesV (RWire.writeText (errMsg e)) := by
      have h2 := cls_le e
      unfold refO bytesV
      rw [List.map_cons, List.map_cons, UInt8.toNat_ofNat', Nat.mod_eq_of_lt (by omega)]
      rfl
    rw [e1] at q
    refine s_retL (el_catV (el_lst (ea_cons ev_c (ea_cons (ev_xfW (ev_var rfl) hm hc hd hf hx rfl) ea_nil)) (by show 2 ≤ 100000; decide)) (el_to (ev_xfW (ev_var rfl) hm hc hd hf hx rfl) hp (by omega)) ?_) q
    rw [bytesV_len]
    show 2 + (RWire.low 4 _ ++ errMsg e).length ≤ _
    rw [List.length_append, low_map, List.length_map, List.length_range]
    omega
end
end Sl
/-! ## SlPl -/
namespace Sl
open PySem PySem.Spec PyProof.Rows L2 Evl
open R7239g.Spec (Err Res newDesk stepArg andThen requireHistory playSteps stepFailed happen)
/-! ### o.m(e, ..) within a try; calls that let errors out -/
def tMethT (C : Addr) (m : Str) (sp : Sp) (E : L2.St → XK) (ta : TE) (t : TA) : TE := fun σ H Q => ta σ H fun x H1 => ∃ a dx fs, x = .ref a ∧ H1 a = some (.ins C dx fs) ∧ fs.lookup m = none ∧ t σ H1 fun vs H2 => sp (x :: vs) H2 Q (E σ)
theorem pe_methT {X : Cx} {CX : CXT} {k : Nat} {f C : Addr} {fd : FuncData} {ps : List Str} {sp : Sp} {E : L2.St → XK} {m : Str} {pos apos : Pos} {e o : Expr} {es : List Expr} {ta : TE} {t : TA} {pl : Sem Bool} (he : PE X o ta) (c : Cls X.K C) (hm : Meth X.K C m f)
    (F : FnOk X.prog X.w X.K X.mg X.base CX k f fd ps sp) (hr : Room k X.A) (hb : Binds X.K fd ps []) (hx : ∀ σ, PassesAt CX X σ (E σ)) (ha : PA X (e :: es) t)
    (hst : starEach (e :: es) X.env = (false, eval e X.env) :: starEach es X.env := by rfl) (hpl : (backTo pos (starEach es X.env)).any (·.1) = false := by rfl)
    (ht : eval (.Call (.Attribute o m apos) (e :: es) [] pos) X.env = (do
      let ov ← eval o X.env
      standAt apos.atName
      let (f, first) ← holding [ov] (getMethod ov m pl)
      callWith pos f first (backTo pos (starEach (e :: es) X.env)) (backToKw pos (keywordEach [] X.env))) := by rfl) : PE X (.Call (.Attribute o m apos) (e :: es) [] pos) (tMethT C m sp E ta t) := by
  refine ⟨fun pins s σ H Q I h => PySem.W.methodCall_KW (pl := pl) (thn (he.run pins s σ H _ I h) fun u s1 ⟨x, H1, I1, rx, a, dx, fs, ex, ea, l, q⟩ => ?_) ht⟩
  subst ex
  obtain rfl : u = Value.ref a := rx
  refine getmeth_ok I1 ea c hm l (PySem.W.callWith_K (first := [.ref a]) (h₀ := X.base) I.ok.mod.kin hm.kp (thn (ha.run pos pins s1 σ H1 _ I1 q) fun us s2 ⟨vs, H2, I2, r, q2⟩ => ⟨I2.kIn, ?_⟩) hst hpl)
  exact run_fnS (us := .ref a :: us) (vs := .ref a :: vs) F hr hb (hx σ) I2 (.cons rfl r) q2
theorem passAtN {X : Cx} {W : WX} (tk : L2N.Takes X W) (σ : L2.St) : PassesAt (L2N.CX X.prog X.w) X σ (WE W σ) := fun _ _ _ e s' I c => tk e s' (L2N.XE.of_call I (fun _ _ _ h => h) c)
theorem passNR {X : Cx} {E : XK} (tk : Xr.Takes X fun cls d _ H => E cls d H) : Passes (L2N.CX X.prog X.w) X E := Xr.passesN tk fun _ _ _ _ h => h
/-- a def that lets out errors with a context -/
theorem mkOkR {P : Program} {w : World} {K : PySem.W.Frag} {mg : Str → Option Value} {base : Heap} {d : He.DefD} {N ps : List Str} {k : Nat} {sp : Sp} (F : DefOk K d) (S : FnScope N ps d.scope) (len : ∀ vs H Q E, sp vs H Q E → vs.length = ps.length)
    (hbody : ∀ (cdv : Value) (A : Around) (outer : List Env) (s : Shared) (H : Hp) (vs : List V) (Q : VK) (E : XK), Room k (A.deeper (envOfC d.qual d.scope s.heap.objs.size (He.fAd K d.at_) cdv)) → sp vs H Q E →
      ∃ t, PSs (cxOf (Xr.CX P w) P w K mg base N d.qual d.scope (He.fAd K d.at_) cdv A outer s H E) d.body t ∧ t { nx := fun _ H' => Q .non H', rt := Q } (L2.start N vs) H) :
    FnOk P w K mg base (Xr.CX P w) (k + 1) (He.fAd K d.at_) (fdOf K (He.fAd K d.at_)) ps sp := FunD.ok F S len hbody
/-! ### steps as values -/
theorem us_unit {s : String} (h : wordS s) : (us s).map Rust.unitOf = R7239g.Spec.units s := by
  rcases h with rfl | rfl | rfl | rfl | rfl | rfl <;> decide +kernel
theorem size_us {s : String} (h : wordS s) : szOf (us s) = some (sizeS s) := by
  rcases h with rfl | rfl | rfl | rfl | rfl | rfl <;> decide +kernel
theorem sz_word {u : List UInt8} {n : Nat} (h : szOf u = some n) : ∃ s, wordS s ∧ u = us s ∧ n = sizeS s := by
  unfold szOf at h
  obtain ⟨e, he, rfl⟩ := Option.map_eq_some_iff.mp h
  have hm := List.mem_of_find?_eq_some he
  have hu := List.find?_some he
  have hu : us e.1 = u := by simpa using hu
  have key : ∀ e ∈ tblS, wordS e.1 ∧ e.2 = sizeS e.1 := fun e he => by
    simp only [tblS, List.mem_cons, List.not_mem_nil, or_false] at he
    rcases he with rfl | rfl | rfl | rfl | rfl | rfl
    · exact ⟨.inl rfl, by decide⟩
    · exact ⟨.inr (.inl rfl), by decide⟩
    · exact ⟨.inr (.inr (.inl rfl)), by decide⟩
    · exact ⟨.inr (.inr (.inr (.inl rfl))), by decide⟩
    · exact ⟨.inr (.inr (.inr (.inr (.inl rfl)))), by decide⟩
    · exact ⟨.inr (.inr (.inr (.inr (.inr rfl)))), by decide⟩
  exact ⟨e.1, (key e hm).1, hu.symm, (key e hm).2⟩
theorem word_ne {s t : String} (h : wordS s) (h2 : wordS t) (e : R7239g.Spec.units s = R7239g.Spec.units t) : s = t := by
  rcases h with rfl | rfl | rfl | rfl | rfl | rfl <;> rcases h2 with rfl | rfl | rfl | rfl | rfl | rfl <;> first | rfl | exact absurd e (by decide +kernel)
theorem taken_all : ∀ l : List Val, Rust.takenAll l = l.map Rust.taken
  | [] => rfl
  | x :: r => by rw [Rust.takenAll, taken_all r]; rfl
/-- a step that has the form -/
theorem step_yes {d : SD} {s : String} {r : List Val} (h : wordS s) (hn : r.length = sizeS s) : stepArg d (Rust.taken (.list (.text (us s) :: r))) = stepF s d r := by
  have e1 : Rust.taken (.list (.text (us s) :: r)) = .arr (.str (R7239g.Spec.units s) :: r.map Rust.taken) := by
    show R7239g.Spec.Plain.arr (.str ((us s).map Rust.unitOf) :: Rust.takenAll r) = _
    rw [us_unit h, taken_all]
  rw [e1]
  have w : ∀ t, wordS t → s ≠ t → R7239g.Spec.units s ≠ R7239g.Spec.units t := fun t ht ne e => ne (word_ne h ht e)
  rcases h with rfl | rfl | rfl | rfl | rfl | rfl
  · match r, hn with | [x], _ => rfl
  · match r, hn with | [x, y], _ => rfl
  · match r, hn with | [x, y], _ => rfl
  · match r, hn with | [x, y], _ => rfl
  · match r, hn with | [x], _ => rfl
  · match r, hn with | [x], _ => rfl
/-- one that does not -/
theorem step_no {K : PySem.W.Frag} {H : Hp} {v : V} {d : SD} {x : Val} (hv : ValAt K H v x) (h : isStep x = false) : ∃ e, stepArg d (Rust.taken x) = .error e := by
  cases x with
  | list l =>
    cases l with
    | nil => exact ⟨_, rfl⟩
    | cons y r =>
      cases y with
      | text u =>
        have hs : (match szOf u with | some n => r.length == n | none => false) = false := h
        show ∃ e, (if u.map Rust.unitOf = _ then _ else _) = Except.error e
        have one : ∀ f, ¬ r.length = 1 → ∃ e, R7239g.Spec.oneArg (Rust.takenAll r) f = .error e := fun f hn => by
          rw [taken_all]
          match r, hn with
          | [], _ => exact ⟨_, rfl⟩
          | [_], hn => exact absurd rfl hn
          | _ :: _ :: _, _ => exact ⟨_, rfl⟩
        have two : ∀ f, ¬ r.length = 2 → ∃ e, R7239g.Spec.twoArgs (Rust.takenAll r) f = .error e := fun f hn => by
          rw [taken_all]
          match r, hn with
          | [], _ => exact ⟨_, rfl⟩
          | [_], _ => exact ⟨_, rfl⟩
          | [_, _], hn => exact absurd rfl hn
          | _ :: _ :: _ :: _, _ => exact ⟨_, rfl⟩
        have key : ∀ t, wordS t → u.map Rust.unitOf = R7239g.Spec.units t → ¬ r.length = sizeS t := fun t ht e hn => by
          have e2 : u = us t := units_inj (e.trans (us_unit ht).symm)
          rw [e2, size_us ht] at hs
          simp [hn] at hs
        split
        · rename_i c; exact one _ (key "ask" (.inl rfl) c)
        split
        · rename_i c; exact two _ (key "scan" (.inr (.inl rfl)) c)
        split
        · rename_i c; exact two _ (key "type" (.inr (.inr (.inl rfl))) c)
        split
        · rename_i c; exact two _ (key "collect" (.inr (.inr (.inr (.inl rfl)))) c)
        split
        · rename_i c; exact one _ (key "leave" (.inr (.inr (.inr (.inr (.inl rfl))))) c)
        split
        · rename_i c; exact one _ (key "tick" (.inr (.inr (.inr (.inr (.inr rfl))))) c)
        exact ⟨_, rfl⟩
      | wide u =>
        unfold ValAt at hv
        obtain ⟨a, vs, _, _, hv⟩ := hv
        unfold ValsAt at hv
        obtain ⟨_, _, _, hv, _⟩ := hv
        unfold ValAt at hv
        exact hv.elim
      | _ => exact ⟨_, rfl⟩
  | octets u =>
    unfold ValAt at hv
    exact hv.elim
  | _ => exact ⟨_, rfl⟩
end Sl
/-! ## SlGood -/
namespace Sl
open R7239g.Spec (Err Res newDesk loginAt noLogin happen putLogin andThen needs placeArg loginArg askArg scanArg typeArg collectArg leaveArg tickArg numberIn rangeErrorWith)
/-! ### what holds of every state of a server -/
def Good (r : SR) : List SD → Prop
  | [] => True
  | d :: ds => d.rules = r ∧ Wd d ∧ d.logins.length ≤ ds.length ∧ Good r ds
theorem needs_ok {b : Bool} {m : String} {x : Res Evt} {ev : Evt} (h : needs b m x = .ok ev) : b = true ∧ x = .ok ev := by
  cases b with
  | true => exact ⟨rfl, h⟩
  | false => cases h
theorem then_ok {α β : Type} {x : Res α} {f : α → Res β} {y : β} (h : andThen x f = .ok y) : ∃ a, x = .ok a ∧ f a = .ok y := by
  cases x with
  | error e => cases h
  | ok a => exact ⟨a, rfl, h⟩
theorem login_lt {d : SD} {p : R7239g.Spec.Plain} {n : Nat} (h : loginArg d p = .ok n) : n < d.logins.length := by
  unfold loginArg at h
  split at h
  · split at h
    · injection h with h
      subst h
      assumption
    · cases h
  · cases h
/-- what a step needs for the states to stay good -/
def Fine (d : SD) : Evt → Prop
  | .ask _ => True
  | .scan _ l => l < d.logins.length
  | .type _ l => l < d.logins.length ∧ (loginAt d l).scan ≠ none
  | .collect _ l => l < d.logins.length ∧ (loginAt d l).given ≠ none
  | .leave _ => True
  | .tick _ => True
theorem fine_of {d : SD} {s : String} {args : List Val} {ev : Evt} (h : stepF s d args = .ok ev) : Fine d ev := by
  unfold stepF at h
  split at h
  · unfold askArg at h
    obtain ⟨b, _, h⟩ := then_ok h
    injection h with h; subst h; trivial
  split at h
  · unfold scanArg at h
    obtain ⟨b, _, h⟩ := then_ok h
    obtain ⟨l, hl, h⟩ := then_ok h
    obtain ⟨_, h⟩ := needs_ok h
    obtain ⟨_, h⟩ := needs_ok h
    obtain ⟨_, h⟩ := needs_ok h
    obtain ⟨_, h⟩ := needs_ok h
    injection h with h; subst h; exact login_lt hl
  split at h
  · unfold typeArg at h
    obtain ⟨b, _, h⟩ := then_ok h
    obtain ⟨l, hl, h⟩ := then_ok h
    obtain ⟨_, h⟩ := needs_ok h
    obtain ⟨hs, h⟩ := needs_ok h
    obtain ⟨_, h⟩ := needs_ok h
    obtain ⟨_, h⟩ := needs_ok h
    obtain ⟨_, h⟩ := needs_ok h
    injection h with h; subst h
    refine ⟨login_lt hl, fun z => ?_⟩
    unfold R7239g.Spec.scannedBy at hs
    rw [z] at hs
    cases hs
  split at h
  · unfold collectArg at h
    obtain ⟨b, _, h⟩ := then_ok h
    obtain ⟨l, hl, h⟩ := then_ok h
    obtain ⟨hg, h⟩ := needs_ok h
    obtain ⟨_, h⟩ := needs_ok h
    obtain ⟨_, h⟩ := needs_ok h
    obtain ⟨_, h⟩ := needs_ok h
    obtain ⟨_, h⟩ := needs_ok h
    injection h with h; subst h
    exact ⟨login_lt hl, fun z => by rw [z] at hg; cases hg⟩
  split at h
  · unfold leaveArg at h
    obtain ⟨b, _, h⟩ := then_ok h
    obtain ⟨_, h⟩ := needs_ok h
    injection h with h; subst h; trivial
  · unfold tickArg at h
    obtain ⟨b, _, h⟩ := then_ok h
    injection h with h; subst h; trivial
theorem loginAt_eq {d : SD} {n : Nat} {x : SLg} (h : d.logins[n]? = some x) : loginAt d n = x := by
  unfold loginAt
  rw [List.getD_eq_getElem?_getD, h]
  rfl
/-- a login in the place of one, as the step has it -/
theorem wd_put {d : SD} {l : Nat} {y : SLg} (hw : Wd d) (hl : l < d.logins.length) (hg : (loginAt d l).given ≠ none → y.given ≠ none) (hs : y.scan = none → y.given = none) : Wd (putLogin d l y) := by
  refine ⟨hw.ss, fun b s e => ?_, by show (d.logins.set l y).length ≤ _; rw [List.length_set]; exact hw.ll, fun n x e hx => ?_⟩
  · obtain ⟨h1, m, h2⟩ := hw.se b s e
    refine ⟨by show _ < (d.logins.set l y).length; rw [List.length_set]; exact h1, ?_⟩
    by_cases q : s.login = l
    · have e2 : loginAt (putLogin d l y) s.login = y := loginAt_eq (by show (d.logins.set l y)[s.login]? = _; rw [q, List.getElem?_set_self hl])
      rw [e2]
      cases hy : y.given with
      | none => exact absurd hy (hg (by rw [← q, h2]; simp))
      | some m2 => exact ⟨m2, rfl⟩
    · have e2 : loginAt (putLogin d l y) s.login = loginAt d s.login := by
        refine loginAt_eq ?_
        show (d.logins.set l y)[s.login]? = _
        rw [List.getElem?_set_ne (Ne.symm q)]
        exact login_at h1
      rw [e2]
      exact ⟨m, h2⟩
  · have e : (d.logins.set l y)[n]? = some x := e
    by_cases q : l = n
    · subst q
      rw [List.getElem?_set_self hl] at e
      injection e with e
      subst e
      exact hs hx
    · rw [List.getElem?_set_ne q] at e
      exact hw.sg n x e hx
theorem wd_sess {d : SD} {b : Nat} {o : Option SSs} (hw : Wd d) (ho : ∀ s, o = some s → s.login < d.logins.length ∧ ∃ m, (loginAt d s.login).given = some m) : Wd { d with sessions := d.sessions.set b o } := by
  refine ⟨by show (d.sessions.set b o).length = _; rw [List.length_set]; exact hw.ss, fun c s e => ?_, hw.ll, hw.sg⟩
  have e : (d.sessions.set b o)[c]? = some (some s) := e
  by_cases q : b = c
  · subst q
    by_cases hb : b < d.sessions.length
    · rw [List.getElem?_set_self hb] at e
      injection e with e
      exact ho s e
    · rw [List.set_eq_of_length_le (by omega)] at e
      exact hw.se b s e
  · rw [List.getElem?_set_ne q] at e
    exact hw.se c s e
theorem wd_happen {d : SD} {ev : Evt} (hw : Wd d) (hl : d.logins.length < 1000) (hf : Fine d ev) : Wd (happen d ev) := by
  cases ev with
  | ask b =>
    refine ⟨hw.ss, fun c s e => ?_, by show (d.logins ++ [_]).length ≤ _; rw [List.length_append, List.length_singleton]; omega, fun n x e hx => ?_⟩
    · obtain ⟨h1, m, h2⟩ := hw.se c s e
      refine ⟨by show _ < (d.logins ++ [_]).length; rw [List.length_append]; omega, m, ?_⟩
      have e2 : loginAt (happen d (.ask b)) s.login = loginAt d s.login := loginAt_eq (by show (d.logins ++ [_])[s.login]? = _; rw [List.getElem?_append_left h1]; exact login_at h1)
      rw [e2]; exact h2
    · have e : (d.logins ++ [(⟨b, d.now, none, none, false⟩ : SLg)])[n]? = some x := e
      by_cases q : n < d.logins.length
      · rw [List.getElem?_append_left q] at e
        exact hw.sg n x e hx
      · rw [List.getElem?_append_right (by omega)] at e
        cases hn : n - d.logins.length with
        | zero =>
          rw [hn] at e
          injection e with e
          rw [← e]
        | succ k => rw [hn] at e; cases e
  | scan p l => exact wd_put hw hf (fun h => by show (if d.rules.number.isNone then _ else _) ≠ none; split; · simp
                                                · exact h) (fun h => by cases h)
  | type p l => exact wd_put hw hf.1 (fun _ => by show some _ ≠ none; simp) fun h => absurd h hf.2
  | collect b l =>
    have h1 : Wd (putLogin d l { loginAt d l with taken := true }) := wd_put hw hf.1 (fun h => h) fun h => hw.sg l (loginAt d l) (login_at hf.1) h
    refine wd_sess (b := b) (o := some ⟨l, d.now⟩) h1 fun s e => ?_
    injection e with e
    subst e
    refine ⟨by show l < (d.logins.set l _).length; rw [List.length_set]; exact hf.1, ?_⟩
    have e2 : loginAt (putLogin d l { loginAt d l with taken := true }) l = { loginAt d l with taken := true } := loginAt_eq (by show (d.logins.set l _)[l]? = _; rw [List.getElem?_set_self hf.1])
    show ∃ m, (loginAt (putLogin d l { loginAt d l with taken := true }) l).given = some m
    rw [e2]
    cases hg : (loginAt d l).given with
    | none => exact absurd hg hf.2
    | some m => exact ⟨m, rfl⟩
  | leave b => exact wd_sess hw fun s e => by cases e
  | tick n => exact ⟨hw.ss, hw.se, hw.ll, hw.sg⟩
theorem happen_rules {d : SD} {ev : Evt} : (happen d ev).rules = d.rules := by cases ev <;> rfl
theorem happen_len {d : SD} {ev : Evt} : (happen d ev).logins.length ≤ d.logins.length + 1 := by
  cases ev with
  | ask b => show (d.logins ++ [_]).length ≤ _; rw [List.length_append]; exact Nat.le_refl _
  | scan p l => show (d.logins.set l _).length ≤ _; rw [List.length_set]; omega
  | type p l => show (d.logins.set l _).length ≤ _; rw [List.length_set]; omega
  | collect b l => show (d.logins.set l _).length ≤ _; rw [List.length_set]; omega
  | leave b => exact Nat.le_succ _
  | tick n => exact Nat.le_succ _
theorem Good.step {r : SR} {d : SD} {ds : List SD} {s : String} {args : List Val} {ev : Evt} (h : Good r (d :: ds)) (hl : ds.length ≤ 400) (he : stepF s d args = .ok ev) : Good r (happen d ev :: d :: ds) := by
  obtain ⟨h1, h2, h3, h4⟩ := id h
  refine ⟨happen_rules.trans h1, wd_happen h2 (by omega) (fine_of he), ?_, h⟩
  have := happen_len (d := d) (ev := ev)
  rw [List.length_cons]
  omega
theorem Good.new (r : SR) : Good r [newDesk r] := by
  refine ⟨rfl, ⟨?_, fun b s e => ?_, Nat.zero_le _, fun n x e => by cases e⟩, Nat.le_refl _, trivial⟩
  · show (List.replicate (r.owners + 1) none).length = _
    rw [List.length_replicate]
    rfl
  · have e : (List.replicate (r.owners + 1) (none : Option SSs))[b]? = some (some s) := e
    rw [List.getElem?_replicate] at e
    split at e <;> cases e
end Sl
/-! ## SlPl2 -/
namespace Sl
open PySem PySem.Spec PyProof.Rows L2 Evl
open R7239g.Spec (Err Res newDesk stepArg andThen requireHistory playSteps stepFailed happen typeErrorWith)
theorem eg_srv {K : PySem.W.Frag} {σ : L2.St} {F : Hp} {te : TE} {E : XK} {r : SR} {ra : Addr} (h : Ev te σ F (.ref ra)) (hr : RulesAt K F ra r) :
    Eg (tMake (He.ga K "Server") (spSrvI K) [] E (tCons te tNil)) σ F fun v H => ∃ a l, v = .ref a ∧ SrvAt K H a l r [newDesk r] ∧ F a = none ∧ F l = none := fun H1 e Q q => h H1 e _ fun H2 e2 => fun x dx nx nd ne => by
  have hx : Ex H2 (upd (upd H2 dx (.own x)) x (.ins (He.ga K "Server") dx [])) := (Ex.new nd).trans (Ex.new (by rw [upd_ne (Ne.symm ne)]; exact nx))
  have hr2 := hr.mono (e.trans e2)
  obtain ⟨rk, dr, hra⟩ := id hr2
  refine ⟨x, dx, ra, r, rfl, upd_same, hr2.mono hx, ne_of_none hra nx, fun l t H' h1 hl h2 h3 k => ⟨rfl, ?_⟩⟩
  have e3 : Ex H2 H' := fun b o hb => Same.made nx nd k b o hb
  exact q (.ref x) H' (e2.trans e3) ⟨x, l, rfl, ⟨dx, ra, _, h1, hr2.mono e3, h2, [], t, rfl, h3, rfl⟩, fresh_back (e.trans e2) nx, fresh_back ((e.trans e2).trans hx) hl⟩
/-- for i, x in enumerate(xs) -/
theorem q_forE {K : PySem.W.Frag} {σ : L2.St} {H : Hp} {ta : TA} {a : Addr} {xs : List V} {j1 j2 : Nat} {tb tz : TS} {D : Ends} (h : EvA ta σ H [.ref a]) (hx : H a = some (.lst xs)) (Pv : Nat → L2.St → Hp → Prop) (h0 : ∀ H1, Ex H H1 → Pv 0 σ H1) (hl : ∀ i σ' H', Pv i σ' H' → H' a = some (.lst xs))
    (turn : ∀ i x σ' H' T, xs[i]? = some x → Pv i σ' H' → H' T = none → tb { nx := Pv (i + 1), rt := D.rt, ct := Pv (i + 1), bk := tz D } ((σ'.set j1 (some (.int (i : Nat)))).set j2 (some x)) (upd H' T (.tup [.int (i : Nat), x]))) (fin : ∀ σ' H', Pv xs.length σ' H' → tz D σ' H') :
    tSeq (tFor (iEnum K ta) (gTup K 2 (gCons (gName j1) (gCons (gName j2) gNil))) tb) tz D σ H := h H (Ex.refl H) _ fun H1 e1 => by
  refine ⟨a, xs, rfl, sq_of (e1 _ _ hx), fun i m σ' H' => m = xs.length - i ∧ i ≤ xs.length ∧ Pv i σ' H', ⟨_, rfl, Nat.zero_le _, h0 H1 e1⟩, ?_⟩
  rintro i m σ' H' ⟨rfl, hi, pv⟩
  rcases Nat.lt_or_ge i xs.length with c | c
  · have hx2 := List.getElem?_eq_getElem c
    refine .inr ⟨⟨xs, _, sq_of (hl _ _ _ pv), hx2⟩, Pv (i + 1), fun σ2 H2 p => ⟨xs.length - (i + 1), by omega, rfl, c, p⟩, fun x H2 hy => ?_⟩
    obtain ⟨T, y, rfl, hT, rfl, hy⟩ := hy
    have e2 : y = xs[i] := Option.some.inj ((hy xs (sq_of (hl _ _ _ pv))).symm.trans hx2)
    subst e2
    exact ⟨T, _, rfl, st_of upd_same, rfl, _, _, rfl, _, _, rfl, rfl, turn i _ σ' H' T hx2 pv hT⟩
  · have : i = xs.length := Nat.le_antisymm hi c
    subst this
    exact .inl ⟨⟨xs, sq_of (hl _ _ _ pv), Nat.le_refl _⟩, fin σ' H' pv⟩
def okStep (i : Nat) : Bool :=
  let a : Str := Str.ofString "step "
  let b : Str := a ++ Str.ofString (toString (i : Int))
  let c : Str := b ++ Str.ofString " is not possible"
  Nat.ble (a.length + (Str.ofString (toString (i : Int))).length) 100000 && (Nat.ble (b.length + (Str.ofString " is not possible").length) 100000 && (Nat.blt (i : Int).natAbs.log2 1920 && msgOk c (stepFailed i)))
def okSteps : Bool := (List.range 300).all okStep
theorem okSteps_yes : okSteps = true := by decide +kernel
theorem okStep_at {i : Nat} (h : i < 300) : okStep i = true := List.all_eq_true.mp okSteps_yes i (List.mem_range.mpr h)
theorem need_hist {x : Val} (h : ∀ l, x ≠ .list l) (h2 : ∀ u, x ≠ .octets u) : requireHistory (Rust.taken x) = .error (typeErrorWith "history must be a list of at most 300 steps") := by
  cases x with
  | list l => exact absurd rfl (h l)
  | octets u => exact absurd rfl (h2 u)
  | _ => rfl
theorem need_histL {l : List Val} : requireHistory (Rust.taken (.list l)) = if l.length ≤ 300 then .ok (l.map Rust.taken) else .error (typeErrorWith "history must be a list of at most 300 steps") := by
  show (if (true && decide ((Rust.takenAll l).length ≤ 300)) = true then Except.ok (Rust.takenAll l) else _) = _
  rw [taken_all, List.length_map, Bool.true_and]
  by_cases c : l.length ≤ 300
  · rw [if_pos c, if_pos (decide_eq_true c)]
  · rw [if_neg c, if_neg (by rw [decide_eq_true_eq]; exact c)]
def plRes (r : SR) (x : Val) : Res (List SD) := andThen (requireHistory (Rust.taken x)) fun l => playSteps 0 [newDesk r] l
def spPl (K : PySem.W.Frag) : Sp := fun vs H Q E => ∃ (ra : Addr) (r : SR) (v : V) (x : Val), vs = [.ref ra, v] ∧ RulesAt K H ra r ∧ ValAt K H v x ∧ (∀ e, plRes r x = .error e → Out K H E e) ∧
  ∀ ds, plRes r x = .ok ds → Good r ds → ds ≠ [] → ds.length ≤ 301 → ∀ a l H', Ex H H' → H a = none → H l = none → SrvAt K H' a l r ds → Q (.ref a) H'
local macro_rules
  | `(tactic| walk_at "ev") => `(tactic| first
    | exact ev_c
    | exact ev_var rfl
    | ((with_reducible refine' ev_fld ?k1 ?k2 ?k3 ?k4 ?k5); (case k1 => walk_at "ev"); (case k2 => assumption); (case k3 => exact Tx.cl (by assumption) rfl); (case k4 => exact Tx.na (by assumption) rfl); (case k5 => rfl))
    | (refine' ev_st ?k1 ?k2 ?k3; (case k1 => walk_at "ev"); (case k2 => assumption); (case k3 => assumption))
    | ((with_reducible refine' ev_ixT ?k1 ?k2 ?k3 ?k4); (case k1 => walk_at "ev"); (case k2 => walk_at "ev"); (case k3 => assumption); (case k4 => first | assumption | rfl))
    | (refine' ev_isN ?k1; (case k1 => walk_at "ev"))
    | (refine' ev_notN ?k1; (case k1 => walk_at "ev"))
    | (refine' ev_int ?k1 ?k2; (case k1 => walk_at "ev"); (case k2 => walk_at "ev"))
    | ((with_reducible refine' ev_sc ?k1 ?k2 ?k3); (case k1 => walk_at "ev"); (case k2 => walk_at "ev"); (case k3 => rfl))
    | ((with_reducible refine' ev_scn ?k1 ?k2 ?k3); (case k1 => walk_at "ev"); (case k2 => walk_at "ev"); (case k3 => rfl))
    | ((with_reducible refine' ev_notV ?k1); (case k1 => walk_at "ev"))
    | ((with_reducible refine' ev_andV ?k1 ?k2); (case k1 => walk_at "ev"); (case k2 => intro _; walk_at "ev"))
    | ((with_reducible refine' ev_orV ?k1 ?k2); (case k1 => walk_at "ev"); (case k2 => intro _; walk_at "ev"))
    | ((with_reducible refine' et_test ?k1); (case k1 => walk_at "ev"))
    | ((with_reducible refine' et_B ?k1); (case k1 => walk_at "ev"))
    | ((with_reducible refine' et_and ?k1 ?k2); (case k1 => walk_at "ev"); (case k2 => intro _; walk_at "ev"))
    | ((with_reducible refine' et_or ?k1 ?k2); (case k1 => walk_at "ev"); (case k2 => intro _; walk_at "ev"))
    | ((with_reducible refine' et_not ?k1); (case k1 => walk_at "ev"))
    | exact ea_nil
    | ((with_reducible refine' ea_cons ?k1 ?k2); (case k1 => walk_at "ev"); (case k2 => walk_at "ev")))
section
variable {P : Program} {w : World} {K : PySem.W.Frag} {mg : Str → Option Value} {base : Heap}
theorem sc_played : FnScope ["rules", "history", "is_right", "server", "number", "one", "message"] ["rules", "history"] d_played.scope := ⟨rfl, rfl, rfl, by decide +kernel, rfl, by decide +kernel, by decide +kernel⟩
theorem ok_played (T : Tx w K mg) : FnOk P w K mg base (Xr.CX P w) 9 (He.ga K "played") (fdOf K (He.ga K "played")) ["rules", "history"] (spPl K) := by
  refine mkOkR T.F_played sc_played (fun vs H Q E h => ?_) (fun cdv A outer s H vs Q E hr h => ⟨_, (pss_cons (ps_set (i := 2) sc_played.nd rfl (Or.inl rfl) (pe_and (pe_callB call_isi (by rfl) T.f_isinstance (by decide +kernel) (pa_cons (pv 1) (pa_cons (pe_bltn (v := .ty "list") (u := .type "list") (by rfl) T.f_list (by decide +kernel) rfl) pa_nil))) (pe_one (pe_cmpR op_le (pe_callB call_len (by rfl) T.f_len (by decide +kernel) (pa_cons (pv 1) pa_nil)) (pe_gc rfl T.i_MOST_STEPS) (nomark _))))) (pss_cons (ps_expr (pe_call (ok_need_kind T) (hr.mono (by decide)) rfl T.g_need_kind T.kp_need_kind T.B_need_kind .nil (passNR (Xr.takes_of rfl rfl rfl rfl)) (pa_cons (pv 2) (pa_cons pe_str pa_nil)))) (pss_cons (ps_set (i := 3) sc_played.nd rfl (Or.inl rfl) (pe_make T.k_Server (ok_Server_init T) (hr.mono (by decide)) rfl T.g_Server T.B_Server_init .nil pass0 (pa_cons (pv 0) pa_nil))) (pss_cons (ps_for PassesOwn.leaving rfl (pi_enum (by rfl) T.f_enumerate (pa_cons (pv 1) pa_nil)) (pg_tup rfl (pgs_cons (pg_name (i := 4) sc_played.nd rfl (Or.inl rfl)) (pgs_cons (pg_name (i := 5) sc_played.nd rfl (Or.inl rfl)) pgs_nil))) (pss_cons (ps_set (i := 6) sc_played.nd rfl (Or.inl rfl) (pe_op op_add_str (pe_op op_add_str pe_str (pe_callTy call_str_int (by rfl) T.f_str (by decide +kernel) (pa_cons (pv 4) pa_nil))) pe_str)) (pss_cons (ps_expr (pe_call (ok_need_range T) (hr.mono (by decide)) rfl T.g_need_range T.kp_need_range T.B_need_range .nil (passNR (Xr.takes_of rfl rfl rfl rfl)) (pa_cons (pe_call (ok_is_step T) (hr.mono (by decide)) rfl T.g_is_step T.kp_is_step T.B_is_step .nil pass0 (pa_cons (pv 5) pa_nil)) (pa_cons (pv 6) pa_nil)))) (pss_one (Xr.ps_try_onlyW (Wout := fun cls d _ H => E cls d H) (tb := fun W => tDrop (tMethT (He.ga K "Server") "step" (spStp K) (WE W) (tVar 3) (tCons (tOp (rIxL K) (tVar 5) (tC (.int 0))) (tCons (tSl (rSlL K) (tVar 5) (tPart (tC (.int 1))) tNoPart) tNil)))) (ts := tDrop (L2.tCallS (spNeed K 2) (fun _ => E) (tCons (tC (.bl false)) (tCons (tVar 6) tNil)))) rfl rfl ⟨rfl, by decide, Or.inl T.g_Refused⟩ (fun hd => PassesOwnAt.leaving) (Xr.takes_of rfl rfl rfl rfl)
      (fun W pn xe tk _ => pss_one (ps_expr (pe_methT (pv 3) T.c_Server T.m_Server_step (ok_Server_step T) (hr.mono (by decide)) T.B_Server_step (fun σ => passAtN tk σ) (pa_cons (pe_ix ix_list (pv 5) pe_int (fun _ _ => rfl)) (pa_cons (pe_slice sl_list (pv 5) (po_some pe_int) po_none) pa_nil)))))
      (fun a oe pn tk hc => pss_one (ps_expr (L2H.pe_callH (hx_need_range T) (L2H.roomH_mark (hr.mono (by decide)) _) hc rfl T.g_need_range T.kp_need_range T.B_need_range (fun σ pins H s e s' I c => Xr.passes_call tk (fun _ _ _ _ h => h) pins σ H s e s' I c) (pa_cons pe_bl (pa_cons (pv 6) pa_nil)))))))))) (pss_one (ps_ret (pv 3))))))), ?_⟩)
  · (repeat (first | exact congrArg List.length h.1 | obtain ⟨_, h⟩ := h))
  · obtain ⟨ra, r, v, x, rfl, hr, hv, qe, qo⟩ := h
    have hx : EgV K (tVar 1) [some (.ref ra), some v, none, none, none, none, none] H x := gv_varE rfl hv
    have m1 : msgOk (Str.ofString "history must be a list of at most 300 steps") (typeErrorWith "history must be a list of at most 300 steps") = true := by decide +kernel
    cases hL : isL x with
    | false =>
      have e1 : plRes r x = .error (typeErrorWith "history must be a list of at most 300 steps") := by
        unfold plRes
        rw [need_hist (fun l z => by subst z; cases hL) fun u z => by subst z; unfold ValAt at hv; exact hv]
        rfl
      refine pr_asg (F := H) (v := .bl false) (ev_is (ev_andV (a := false) (b := false) (ev_is (ev_isL hx T) (by rw [hL])) fun h => Bool.noConfusion h) rfl) ?_ H (Ex.refl H)
      exact pr_need (b := false) (e := typeErrorWith "history must be a list of at most 300 steps") (ea_cons (ev_var rfl) (ea_cons ev_c ea_nil)) (fun _ => ⟨m1, rfl⟩) (fun h => Bool.noConfusion h) fun _ => qe _ e1
    | true =>
      cases x with
      | list l =>
        have hv2 := hv
        unfold ValAt at hv2
        obtain ⟨a0, xs, rfl, ha0, hvs⟩ := hv2
        have len := hvs.len
        have e0 : plRes r (.list l) = andThen (if l.length ≤ 300 then .ok (l.map Rust.taken) else .error (typeErrorWith "history must be a list of at most 300 steps")) fun l => playSteps 0 [newDesk r] l := by unfold plRes; rw [need_histL]
        refine pr_asg (F := H) (v := .bl (decide (l.length ≤ 300))) (ev_is (ev_andV (a := true) (b := decide (l.length ≤ 300)) (ev_is (ev_isL hx T) rfl) fun _ => ev_is (ev_int (g := fun i j => .bl (decide (i ≤ j))) (i := xs.length) (j := 300) (ev_len2 (ev_var rfl) (sq_of ha0)) ev_c) (by rw [len]; exact congrArg V.bl (decide_eq_decide.mpr (by omega)))) (by rw [Bool.true_and])) ?_ H (Ex.refl H)
        refine pr_need (b := decide (l.length ≤ 300)) (e := typeErrorWith "history must be a list of at most 300 steps") (ea_cons (ev_var rfl) (ea_cons ev_c ea_nil)) (fun _ => ⟨m1, rfl⟩) (fun hb => ?_) fun hb => ?_
        rotate_left
        · exact qe _ (by rw [e0, if_neg (of_decide_eq_false hb)]; rfl)
        have hle := of_decide_eq_true hb
        rw [if_pos hle] at e0
        have e0 : plRes r (.list l) = playSteps 0 [newDesk r] (l.map Rust.taken) := e0
        rw [e0] at qe qo
        refine pr_asgG (eg_srv (ev_var rfl) hr) fun vv H1 x1 hp => ?_
        obtain ⟨a, sl, rfl, hS1, na, nl⟩ := hp
        intro H2 x2
        have y12 : Ex H H2 := x1.trans x2
        refine q_forE (a := a0) (xs := xs) (ea_cons (ev_var rfl) ea_nil) (y12 _ _ ha0)
          (fun i σ' Hc => Ex H Hc ∧ i ≤ l.length ∧ (∃ y z m, σ' = [some (.ref ra), some (.ref a0), some (.bl (decide (l.length ≤ 300))), some (.ref a), y, z, m]) ∧ ∃ d ds, SrvAt K Hc a sl r (d :: ds) ∧ ds.length = i ∧ Good r (d :: ds) ∧ playSteps 0 [newDesk r] (l.map Rust.taken) = playSteps i (d :: ds) ((l.drop i).map Rust.taken))
          (fun H3 x3 => ⟨y12.trans x3, Nat.zero_le _, ⟨_, _, _, rfl⟩, newDesk r, [], hS1.mono (x2.trans x3), rfl, Good.new r, rfl⟩) (fun i σ' H' pv => pv.1 _ _ ha0) (fun i y σ' Hc t hi pv hT => ?_) fun σ' Hc pv => ?_
        · obtain ⟨xc, hil, ⟨y0, z0, m0, rfl⟩, d, ds, hS, hds, hG, hpl⟩ := pv
          obtain ⟨hi1, hi2⟩ := List.getElem?_eq_some_iff.mp hi
          have hi3 : i < l.length := by omega
          obtain ⟨yv, hyv, hval⟩ := hvs.get hi3
          obtain rfl : y = yv := Option.some.inj (hi.symm.trans hyv)
          have hget : l[i]? = some (l.getD i .nothing) := by rw [List.getD_eq_getElem?_getD, List.getElem?_eq_getElem hi3]; rfl
          generalize hX : l.getD i .nothing = X at hval hget
          have hdrop : l.drop i = X :: l.drop (i + 1) := by
            obtain ⟨g1, g2⟩ := List.getElem?_eq_some_iff.mp hget
            rw [← g2]
            exact List.drop_eq_getElem_cons g1
          have hpl2 : playSteps 0 [newDesk r] (l.map Rust.taken) = match stepArg d (Rust.taken X) with | .error _ => .error (stepFailed i) | .ok e => playSteps (i + 1) (happen d e :: d :: ds) ((l.drop (i + 1)).map Rust.taken) := by
            rw [hpl, hdrop]
            rfl
          have ok := okStep_at (i := i) (by omega)
          unfold okStep at ok
          simp only [Bool.and_eq_true] at ok
          obtain ⟨o1, o2, o3, o4⟩ := ok
          have xu : Ex Hc (upd Hc t (.tup [.int (i : Nat), y])) := Ex.new hT
          have xt := xc.trans xu
          have hS' := hS.mono xu
          generalize upd Hc t (.tup [.int (i : Nat), y]) = Hd at xu xt hS'
          have bad : (∃ e, stepArg d (Rust.taken X) = .error e) → Out K H E (stepFailed i) := fun ⟨e, he⟩ => qe _ (by rw [hpl2, he])
          refine pr_asg (F := Hd) (ev_adds (ev_adds ev_c (ev_strI (ev_var rfl) o3) o1) ev_c o2) ?_ Hd (Ex.refl Hd)
          refine pr_need (b := isStep X) (e := stepFailed i) (ea_cons ?_ (ea_cons (ev_var rfl) ea_nil)) (fun _ => ⟨o4, rfl⟩) (fun hb => ?_) fun hb => (bad (step_no hval hb)).mono xt
          · exact fun G eG Q q => ev_var (v := y) rfl G eG _ fun G2 e2 => ⟨y, X, rfl, hval.mono (xt.trans (eG.trans e2)), fun G3 e3 => q G3 (e2.trans e3)⟩
          intro H5 x5
          -- the step itself
          have hok : ∃ s args, wordS s ∧ X = .list (.text (us s) :: args) ∧ args.length = sizeS s := by
            cases X with
            | list lx =>
              cases lx with
              | nil => cases hb
              | cons y1 rr =>
                cases y1 with
                | text u =>
                  have hb2 : (match szOf u with | some n => rr.length == n | none => false) = true := hb
                  cases hz : szOf u with
                  | none => rw [hz] at hb2; cases hb2
                  | some n =>
                    rw [hz] at hb2
                    obtain ⟨s, h1, h2, h3⟩ := sz_word hz
                    exact ⟨s, rr, h1, by rw [h2], by rw [← h3]; simpa using hb2⟩
                | _ => cases hb
            | _ => cases hb
          obtain ⟨s, args, hs, rfl, hsz⟩ := hok
          have hst : stepArg d (Rust.taken (.list (.text (us s) :: args))) = stepF s d args := step_yes hs hsz
          rw [hst] at hpl2 bad
          have hval5 := hval.mono (xt.trans x5)
          unfold ValAt at hval5
          obtain ⟨al, vs, rfl, hal, hvs5⟩ := hval5
          unfold ValsAt at hvs5
          obtain ⟨v0, us', rfl, hv0, hus⟩ := hvs5
          unfold ValAt at hv0
          subst hv0
          have hS5 := hS'.mono x5
          have hS6 := hS5
          obtain ⟨dx, ra', svs, s1, s2⟩ := hS5
          show tMethT (He.ga K "Server") "step" (spStp K) _ (tVar 3) _ _ _ _
          refine (ev_var (v := .ref a) rfl) H5 (Ex.refl H5) _ fun H6 x6 => ⟨a, dx, _, rfl, x6 _ _ s1, rfl, ?_⟩
          refine (ev_op (ev_var rfl) ev_c (rv_ixL (sq_of (x6 _ _ hal)) (show atI (V.str (enc (us s)) :: us') 0 = some (V.str (enc (us s))) from atI_nat (i := 0) rfl))) H6 (Ex.refl H6) _ fun H7 x7 => ?_
          refine (el_sl (ev_var rfl) (eo_some ev_c) eo_none (sq_of (x7 _ _ (x6 _ _ hal)))) H7 (Ex.refl H7) _ fun al2 H8 nal x8 hal2 => ?_
          have y58 : Ex H5 H8 := x6.trans (x7.trans x8)
          have e5 : cutV (V.str (enc (us s)) :: us') (some 1) none = us' := by
            unfold cutV
            rw [show (1 : Int) = ((1 : Nat) : Int) from rfl, HT.sIx_nat, HT.sIx_none]
            have : min 1 (V.str (enc (us s)) :: us').length = 1 := Nat.min_eq_left (by rw [List.length_cons]; omega)
            rw [this, List.length_cons]
            show (us'.take _) = us'
            exact List.take_of_length_le (by omega)
          rw [e5] at hal2
          have e6 : enc (us s) = Str.ofString s := by rcases hs with rfl | rfl | rfl | rfl | rfl | rfl <;> decide +kernel
          obtain ⟨hG1, hG2, hG3, hG4⟩ := id hG
          refine ⟨a, sl, al2, r, d, ds, us', args, s, by rw [e6], hs, hS6.mono y58, hG1, hG2, by rw [List.length_cons]; omega, hal2, hus.mono y58, by omega, fun e he d' H' x' hE => ?_, fun ev he h3 => ?_, fun ev he h3 v H' bt hs2 hvv => ?_⟩
          · refine ⟨T.refm.exm, ?_⟩
            have B := (bad ⟨e, he⟩).mono (xt.trans (x5.trans (y58.trans x')))
            refine ⟨_, rfl, false, _, rfl, (fun h => Bool.noConfusion h), fun _ d2 H'' x2' hd2 => ?_⟩
            obtain ⟨h4, h5⟩ := msgOk.at o4
            exact B d2 H'' x2' ⟨by rw [← h4]; exact hd2, h5⟩
          · rw [List.length_cons] at h3; omega
          · have nsl : H8 sl ≠ none := by obtain ⟨_, _, _, _, _, z, _⟩ := hS6.mono y58; rw [z]; simp
            refine ⟨bt.ex (xt.trans (x5.trans y58)) nl, hi3, ⟨_, _, _, rfl⟩, happen d ev, d :: ds, hs2, by rw [List.length_cons, hds], hG.step (by omega) he, ?_⟩
            rw [hpl2, he]
        · obtain ⟨xc, hil, ⟨y0, z0, m0, rfl⟩, d, ds, hS, hds, hG, hpl⟩ := pv
          rw [len, List.drop_length] at hpl
          exact s_ret (ev_var (v := .ref a) rfl) fun H' e => qo (d :: ds) hpl hG (by simp) (by rw [List.length_cons, hds, len]; omega) a sl H' (xc.trans e) na nl (hS.mono e)
      | _ => cases hL
end
end Sl
/-! ## SlCall -/
namespace Sl
open R7239g.Spec (Err Res Plain Ans World Course Call newDesk andThen numberIn numberOrNull placeArg natOrNull historyPlain signInResult answer rulesAt courseAt deskOf courseStep undoStep makeRules playAll putServer step within hasRules hasServer isSlot)
/-! ### which call a door makes -/
def manyL : List Nat := [2, 1, 1, 1, 1, 1, 4, 2, 3, 2, 3, 3, 3, 2, 2, 1, 1, 2, 2, 2]
def padA (door : Nat) (l : List Val) : List Val := l ++ List.replicate (manyL.getD door 0 - l.length) RWire.Value.nothing
theorem getD_pad {l : List Val} {n i : Nat} : (l ++ List.replicate n RWire.Value.nothing).getD i .nothing = l.getD i .nothing := by
  rw [List.getD_eq_getElem?_getD, List.getD_eq_getElem?_getD]
  by_cases h : i < l.length
  · rw [List.getElem?_append_left h]
  · rw [List.getElem?_append_right (by omega), List.getElem?_eq_none (l := l) (by omega), List.getElem?_replicate]
    split <;> rfl
theorem arg_at {l : List Val} {n i : Nat} : Rust.argAt (Rust.takenAll l) i = argV (l ++ List.replicate n RWire.Value.nothing) i := by
  unfold argV Rust.argAt
  rw [getD_pad, taken_all, List.getD_eq_getElem?_getD, List.getElem?_map, List.getD_eq_getElem?_getD]
  cases l[i]? with
  | none => rfl
  | some x => rfl
theorem argV_drop {l : List Val} {i : Nat} : argV (l.drop 1) i = argV l (i + 1) := by
  unfold argV
  rw [List.getD_eq_getElem?_getD, List.getD_eq_getElem?_getD, List.getElem?_drop, Nat.add_comm]
theorem slot_val {x : Val} {n : Nat} (h : Rust.slotOf 3 (Rust.taken x) = some n) : x = .int (n : Int) ∧ n < 4 := by
  cases x with
  | int i =>
    have h : (if (RShim.F64.ofInt i == RShim.F64.negZero) = true then none else (RShim.F64.toInt? (RShim.F64.ofInt i)).bind fun k => if decide (0 ≤ k) && Nat.ble k.toNat 3 then some k.toNat else none) = some n := h
    have e : (RShim.F64.ofInt i == RShim.F64.negZero) = false := rfl
    rw [e, if_neg Bool.false_ne_true] at h
    have h : (if decide (0 ≤ i) && Nat.ble i.toNat 3 then some i.toNat else none) = some n := h
    split at h
    · rename_i c
      rw [Bool.and_eq_true, decide_eq_true_eq, Nat.ble_eq] at c
      injection h with h
      refine ⟨?_, by omega⟩
      congr 1
      omega
    · cases h
  | _ => cases h
def ansOf (x : Res Plain) : Ans := answer id x
/-- the word of a door -/
def wordD (door : Nat) : String := if door = 9 then "ask" else if door = 10 then "scan" else if door = 11 then "type" else if door = 12 then "collect" else if door = 13 then "leave" else "tick"
def playRes (W : World) (p : Nat) (r : SR) (x : Val) : World × Ans := match plRes r x with
  | .error e => (W, .fail e)
  | .ok s => (putServer W p ⟨s⟩, .ret .undef)
/-- the call of a door, with the arguments filled up -/
inductive CallIs (W : World) : Nat → List Val → World × Ans → Prop
  | rules {args : List Val} (q : Nat) (hq : q < 4) (h0 : args.getD 0 .nothing = .int (q : Int)) : CallIs W 0 args (makeRules W q (argV args 1))
  | about {door : Nat} {args : List Val} (q : Nat) (r : SR) (h1 : 1 ≤ door) (h2 : door ≤ 6) (hq : q < 4) (h0 : args.getD 0 .nothing = .int (q : Int)) (hr : W.rules.getD q none = some r) : CallIs W door args (W, ansOf (arRes door r (args.drop 1)))
  | new {args : List Val} (p q : Nat) (r : SR) (hp : p < 4) (hq : q < 4) (h0 : args.getD 0 .nothing = .int (p : Int)) (h1 : args.getD 1 .nothing = .int (q : Int)) (hr : W.rules.getD q none = some r) : CallIs W 7 args (putServer W p ⟨[newDesk r]⟩, .ret .undef)
  | play {args : List Val} (p q : Nat) (r : SR) (hp : p < 4) (hq : q < 4) (h0 : args.getD 0 .nothing = .int (p : Int)) (h1 : args.getD 1 .nothing = .int (q : Int)) (hr : W.rules.getD q none = some r) : CallIs W 8 args (playRes W p r (args.getD 2 .nothing))
  | step {door : Nat} {args : List Val} (p : Nat) (k : Course) (h1 : 9 ≤ door) (h2 : door ≤ 14) (hp : p < 4) (h0 : args.getD 0 .nothing = .int (p : Int)) (hk : W.servers.getD p none = some k) : CallIs W door args (courseStep W p fun n => stepF (wordD door) n (args.drop 1))
  | undo {args : List Val} (p : Nat) (k : Course) (hp : p < 4) (h0 : args.getD 0 .nothing = .int (p : Int)) (hk : W.servers.getD p none = some k) : CallIs W 15 args (undoStep W p)
  | state {door : Nat} {args : List Val} (p : Nat) (k : Course) (h1 : 16 ≤ door) (h2 : door ≤ 19) (hp : p < 4) (h0 : args.getD 0 .nothing = .int (p : Int)) (hk : W.servers.getD p none = some k) : CallIs W door args (W, ansOf (asRes door (deskOf k) (args.drop 1)))
theorem taking_ok {n : Nat} {l : List Plain} {c : Option Call} {d : Call} (h : Rust.taking n l c = some d) : l.length ≤ n ∧ c = some d := by
  unfold Rust.taking at h
  split at h
  · rename_i z; exact ⟨Nat.le_of_ble_eq_true z, h⟩
  · cases h
theorem bind_ok {α β : Type} {x : Option α} {f : α → Option β} {y : β} (h : x.bind f = some y) : ∃ a, x = some a ∧ f a = some y := by
  cases x with
  | none => cases h
  | some a => exact ⟨a, rfl, h⟩
theorem rul_ok {W : World} {q : Nat} (h : hasRules W q = true) : ∃ r, W.rules.getD q none = some r ∧ rulesAt W q = r := by
  unfold hasRules at h
  have h := (Bool.and_eq_true_iff.mp h).2
  unfold rulesAt
  cases e : W.rules.getD q none with
  | none => rw [e] at h; cases h
  | some r => exact ⟨r, rfl, rfl⟩
theorem srv_ok {W : World} {q : Nat} (h : hasServer W q = true) : ∃ r, W.servers.getD q none = some r ∧ courseAt W q = r := by
  unfold hasServer at h
  have h := (Bool.and_eq_true_iff.mp h).2
  unfold courseAt
  cases e : W.servers.getD q none with
  | none => rw [e] at h; cases h
  | some r => exact ⟨r, rfl, rfl⟩
theorem and1 {a b : Bool} (h : (a && b) = true) : a = true := (Bool.and_eq_true_iff.mp h).1
theorem and2 {a b : Bool} (h : (a && b) = true) : b = true := (Bool.and_eq_true_iff.mp h).2
theorem door_lt {door : Nat} {l : List Plain} {c : Call} (h : Rust.callOf door l = some c) : door < 20 := by
  refine Classical.byContradiction fun hn => ?_
  have h20 : 20 ≤ door := Nat.le_of_not_lt hn
  unfold Rust.callOf at h
  by_cases h2 : door < 32
  · have : door = 20 ∨ door = 21 ∨ door = 22 ∨ door = 23 ∨ door = 24 ∨ door = 25 ∨ door = 26 ∨ door = 27 ∨ door = 28 ∨ door = 29 ∨ door = 30 ∨ door = 31 := by omega
    rcases this with rfl | rfl | rfl | rfl | rfl | rfl | rfl | rfl | rfl | rfl | rfl | rfl <;> cases h
  · have e : ∃ k, door / 16 = k + 2 := ⟨door / 16 - 2, by omega⟩
    obtain ⟨k, e⟩ := e
    rw [e] at h
    cases h
theorem many_le {door : Nat} {l : List Val} {c : Call} (h : Rust.callOf door (Rust.takenAll l) = some c) : l.length ≤ manyL.getD door 0 := by
  have hd := door_lt h
  have len : (Rust.takenAll l).length = l.length := by rw [taken_all, List.length_map]
  have : door = 0 ∨ door = 1 ∨ door = 2 ∨ door = 3 ∨ door = 4 ∨ door = 5 ∨ door = 6 ∨ door = 7 ∨ door = 8 ∨ door = 9 ∨ door = 10 ∨ door = 11 ∨ door = 12 ∨ door = 13 ∨ door = 14 ∨ door = 15 ∨ door = 16 ∨ door = 17 ∨ door = 18 ∨ door = 19 := by omega
  rw [← len]
  rcases this with rfl | rfl | rfl | rfl | rfl | rfl | rfl | rfl | rfl | rfl | rfl | rfl | rfl | rfl | rfl | rfl | rfl | rfl | rfl | rfl <;> exact (taking_ok (show Rust.taking _ _ _ = some c from h)).1
theorem slot_at {l : List Val} {n i s : Nat} (h : Rust.slotAt (Rust.takenAll l) i 3 = some s) : (l ++ List.replicate n RWire.Value.nothing).getD i .nothing = .int (s : Int) ∧ s < 4 := by
  unfold Rust.slotAt at h
  rw [arg_at (n := n)] at h
  exact slot_val h
theorem playAll_eq {W : World} {p q : Nat} {r : SR} {x : Val} (hr : rulesAt W q = r) : playAll W p q (Rust.taken x) = playRes W p r x := by
  unfold playAll playRes plRes
  rw [hr]
  cases andThen (R7239g.Spec.requireHistory (Rust.taken x)) (fun l => R7239g.Spec.playSteps 0 [newDesk r] l) <;> rfl
theorem call_is {W : World} {door : Nat} {l : List Val} {c : Call} (h : Rust.callOf door (Rust.takenAll l) = some c) (hw : within W c = true) : CallIs W door (padA door l) (step W c) := by
  have hd := door_lt h
  unfold padA
  have : door = 0 ∨ door = 1 ∨ door = 2 ∨ door = 3 ∨ door = 4 ∨ door = 5 ∨ door = 6 ∨ door = 7 ∨ door = 8 ∨ door = 9 ∨ door = 10 ∨ door = 11 ∨ door = 12 ∨ door = 13 ∨ door = 14 ∨ door = 15 ∨ door = 16 ∨ door = 17 ∨ door = 18 ∨ door = 19 := by omega
  generalize manyL.getD door 0 - l.length = n
  rcases this with rfl | rfl | rfl | rfl | rfl | rfl | rfl | rfl | rfl | rfl | rfl | rfl | rfl | rfl | rfl | rfl | rfl | rfl | rfl | rfl
  all_goals obtain ⟨_, h⟩ := taking_ok (show Rust.taking _ _ _ = some c from h)
  all_goals obtain ⟨s, hs, h⟩ := bind_ok h
  all_goals obtain ⟨h0, h1⟩ := slot_at (n := n) hs
  · injection h with h; subst h
    show CallIs W 0 _ (makeRules W s (Rust.argAt _ 1))
    rw [arg_at (n := n)]
    exact .rules s h1 h0
  · injection h with h; subst h
    obtain ⟨r, hr, e⟩ := rul_ok (show hasRules W s = true from hw)
    have z := CallIs.about (W := W) (door := 1) s r (by decide) (by decide) h1 h0 hr
    rw [← e] at z
    exact z
  · injection h with h; subst h
    obtain ⟨r, hr, e⟩ := rul_ok (show hasRules W s = true from hw)
    have z := CallIs.about (W := W) (door := 2) s r (by decide) (by decide) h1 h0 hr
    rw [← e] at z
    exact z
  · injection h with h; subst h
    obtain ⟨r, hr, e⟩ := rul_ok (show hasRules W s = true from hw)
    have z := CallIs.about (W := W) (door := 3) s r (by decide) (by decide) h1 h0 hr
    rw [← e] at z
    exact z
  · injection h with h; subst h
    obtain ⟨r, hr, e⟩ := rul_ok (show hasRules W s = true from hw)
    have z := CallIs.about (W := W) (door := 4) s r (by decide) (by decide) h1 h0 hr
    rw [← e] at z
    exact z
  · injection h with h; subst h
    obtain ⟨r, hr, e⟩ := rul_ok (show hasRules W s = true from hw)
    have z := CallIs.about (W := W) (door := 5) s r (by decide) (by decide) h1 h0 hr
    rw [← e] at z
    exact z
  · injection h with h; subst h
    obtain ⟨r, hr, e⟩ := rul_ok (and1 (show (hasRules W s && _) = true from hw))
    have z := CallIs.about (W := W) (door := 6) s r (by decide) (by decide) h1 h0 hr
    show CallIs W 6 _ (W, answer id (signInResult (rulesAt W s) (Rust.argAt _ 1) (Rust.argAt _ 2) (Rust.argAt _ 3)))
    rw [arg_at (n := n), arg_at (n := n), arg_at (n := n), e]
    have e3 : ∀ L : List Val, ansOf (arRes 6 r (L.drop 1)) = answer id (signInResult r (argV L 1) (argV L 2) (argV L 3)) := fun L => by rw [← argV_drop (i := 2), ← argV_drop (i := 1), ← argV_drop (i := 0)]; rfl
    rw [e3] at z
    exact z
  · obtain ⟨s2, hs2, h⟩ := bind_ok h
    obtain ⟨g0, g1⟩ := slot_at (n := n) hs2
    injection h with h; subst h
    obtain ⟨r, hr, e⟩ := rul_ok (and2 (show (isSlot s && hasRules W s2) = true from hw))
    have z := CallIs.new (W := W) s s2 r h1 g1 h0 g0 hr
    rw [← e] at z
    exact z
  · obtain ⟨s2, hs2, h⟩ := bind_ok h
    obtain ⟨g0, g1⟩ := slot_at (n := n) hs2
    injection h with h; subst h
    obtain ⟨r, hr, e⟩ := rul_ok (and2 (and1 (show ((isSlot s && hasRules W s2) && _) = true from hw)))
    have z := CallIs.play (W := W) s s2 r h1 g1 h0 g0 hr
    show CallIs W 8 _ (playAll W s s2 (Rust.argAt _ 2))
    rw [arg_at (n := n)]
    unfold argV
    rw [playAll_eq e]
    exact z
  · injection h with h; subst h
    obtain ⟨k, hk, e⟩ := srv_ok (and1 (show (hasServer W s && _) = true from hw))
    have z := CallIs.step (W := W) (door := 9) s k (by decide) (by decide) h1 h0 hk
    show CallIs W 9 _ (courseStep W s fun n => R7239g.Spec.askArg n (Rust.argAt _ 1))
    rw [arg_at (n := n), ← argV_drop]
    exact z
  · injection h with h; subst h
    obtain ⟨k, hk, e⟩ := srv_ok (and1 (show (hasServer W s && _) = true from hw))
    have z := CallIs.step (W := W) (door := 10) s k (by decide) (by decide) h1 h0 hk
    show CallIs W 10 _ (courseStep W s fun n => R7239g.Spec.scanArg n (Rust.argAt _ 1) (Rust.argAt _ 2))
    rw [arg_at (n := n), arg_at (n := n), ← argV_drop, ← argV_drop]
    exact z
  · injection h with h; subst h
    obtain ⟨k, hk, e⟩ := srv_ok (and1 (show (hasServer W s && _) = true from hw))
    have z := CallIs.step (W := W) (door := 11) s k (by decide) (by decide) h1 h0 hk
    show CallIs W 11 _ (courseStep W s fun n => R7239g.Spec.typeArg n (Rust.argAt _ 1) (Rust.argAt _ 2))
    rw [arg_at (n := n), arg_at (n := n), ← argV_drop, ← argV_drop]
    exact z
  · injection h with h; subst h
    obtain ⟨k, hk, e⟩ := srv_ok (and1 (show (hasServer W s && _) = true from hw))
    have z := CallIs.step (W := W) (door := 12) s k (by decide) (by decide) h1 h0 hk
    show CallIs W 12 _ (courseStep W s fun n => R7239g.Spec.collectArg n (Rust.argAt _ 1) (Rust.argAt _ 2))
    rw [arg_at (n := n), arg_at (n := n), ← argV_drop, ← argV_drop]
    exact z
  · injection h with h; subst h
    obtain ⟨k, hk, e⟩ := srv_ok (and1 (show (hasServer W s && _) = true from hw))
    have z := CallIs.step (W := W) (door := 13) s k (by decide) (by decide) h1 h0 hk
    show CallIs W 13 _ (courseStep W s fun n => R7239g.Spec.leaveArg n (Rust.argAt _ 1))
    rw [arg_at (n := n), ← argV_drop]
    exact z
  · injection h with h; subst h
    obtain ⟨k, hk, e⟩ := srv_ok (and1 (show (hasServer W s && _) = true from hw))
    have z := CallIs.step (W := W) (door := 14) s k (by decide) (by decide) h1 h0 hk
    show CallIs W 14 _ (courseStep W s fun _ => R7239g.Spec.tickArg (Rust.argAt _ 1))
    rw [arg_at (n := n), ← argV_drop]
    exact z
  · injection h with h; subst h
    obtain ⟨k, hk, e⟩ := srv_ok (show hasServer W s = true from hw)
    exact .undo s k h1 h0 hk
  · injection h with h; subst h
    obtain ⟨k, hk, e⟩ := srv_ok (show hasServer W s = true from hw)
    have z := CallIs.state (W := W) (door := 16) s k (by decide) (by decide) h1 h0 hk
    rw [← e] at z
    exact z
  · injection h with h; subst h
    obtain ⟨k, hk, e⟩ := srv_ok (and1 (show (hasServer W s && _) = true from hw))
    have z := CallIs.state (W := W) (door := 17) s k (by decide) (by decide) h1 h0 hk
    show CallIs W 17 _ (W, answer _ (placeArg "browser" (deskOf (courseAt W s)) (Rust.argAt _ 1)))
    rw [arg_at (n := n), e, ← argV_drop]
    have e2 : ansOf (asRes 17 (deskOf k) (List.drop 1 (l ++ List.replicate n RWire.Value.nothing))) = answer (fun b => natOrNull (R7239g.Spec.signedAs (deskOf k) b)) (placeArg "browser" (deskOf k) (argV (List.drop 1 (l ++ List.replicate n RWire.Value.nothing)) 0)) := by
      unfold asRes ansOf
      rw [if_neg (by decide), if_pos rfl]
      cases placeArg "browser" (deskOf k) (argV (List.drop 1 (l ++ List.replicate n RWire.Value.nothing)) 0) <;> rfl
    rw [e2] at z
    exact z
  · injection h with h; subst h
    obtain ⟨k, hk, e⟩ := srv_ok (and1 (show (hasServer W s && _) = true from hw))
    have z := CallIs.state (W := W) (door := 18) s k (by decide) (by decide) h1 h0 hk
    show CallIs W 18 _ (W, answer _ (placeArg "phone" (deskOf (courseAt W s)) (Rust.argAt _ 1)))
    rw [arg_at (n := n), e, ← argV_drop]
    have e2 : ansOf (asRes 18 (deskOf k) (List.drop 1 (l ++ List.replicate n RWire.Value.nothing))) = answer (fun b => .arr ((R7239g.Spec.codesOf (deskOf k) b).map R7239g.Spec.nat)) (placeArg "phone" (deskOf k) (argV (List.drop 1 (l ++ List.replicate n RWire.Value.nothing)) 0)) := by
      unfold asRes ansOf
      rw [if_neg (by decide), if_neg (by decide), if_pos rfl]
      cases placeArg "phone" (deskOf k) (argV (List.drop 1 (l ++ List.replicate n RWire.Value.nothing)) 0) <;> rfl
    rw [e2] at z
    exact z
  · injection h with h; subst h
    obtain ⟨k, hk, e⟩ := srv_ok (and1 (show (hasServer W s && _) = true from hw))
    have z := CallIs.state (W := W) (door := 19) s k (by decide) (by decide) h1 h0 hk
    show CallIs W 19 _ (W, answer _ (placeArg "phone" (deskOf (courseAt W s)) (Rust.argAt _ 1)))
    rw [arg_at (n := n), e, ← argV_drop]
    have e2 : ansOf (asRes 19 (deskOf k) (List.drop 1 (l ++ List.replicate n RWire.Value.nothing))) = answer (fun b => .arr ((R7239g.Spec.numbersOf (deskOf k) b).map R7239g.Spec.nat)) (placeArg "phone" (deskOf k) (argV (List.drop 1 (l ++ List.replicate n RWire.Value.nothing)) 0)) := by
      unfold asRes ansOf
      rw [if_neg (by decide), if_neg (by decide), if_neg (by decide)]
      cases placeArg "phone" (deskOf k) (argV (List.drop 1 (l ++ List.replicate n RWire.Value.nothing)) 0) <;> rfl
    rw [e2] at z
    exact z
end Sl
/-! ## SlDk -/
namespace Sl
open PySem PySem.Spec PyProof.Rows L2 Evl
open R7239g.Spec (Err Res Plain Ans Course newDesk andThen requireRules deskOf)
abbrev SW := R7239g.Spec.World
abbrev dkF (rl sl : Addr) : List (Str × V) := [("rules", .ref rl), ("servers", .ref sl)]
def SlotAt (K : PySem.W.Frag) (H : Hp) (v : V) (l : Addr) : Option Course → Prop
  | none => v = .non
  | some c => ∃ a r, v = .ref a ∧ SrvAt K H a l r c.states ∧ Good r c.states ∧ c.states ≠ [] ∧ c.states.length ≤ 301
/-- the desk at a, its lists among M -/
def DeskAt (K : PySem.W.Frag) (H : Hp) (a : Addr) (W : SW) (M : List Addr) : Prop := ∃ (dx rl sl : Addr) (rs ss : List V) (L : Nat → Addr), H a = some (.ins (He.ga K "Desk") dx (dkF rl sl)) ∧ H rl = some (.lst rs) ∧ H sl = some (.lst ss) ∧ rl ≠ sl ∧ (rl ∈ M ∧ sl ∈ M) ∧
  (W.rules.length = 4 ∧ W.servers.length = 4 ∧ rs.length = 4 ∧ ss.length = 4) ∧ (∀ i v, rs[i]? = some v → RulO K H v (W.rules.getD i none)) ∧ (∀ i v, ss[i]? = some v → SlotAt K H v (L i) (W.servers.getD i none)) ∧
  (∀ i k, W.servers.getD i none = some k → L i ∈ M ∧ L i ≠ rl ∧ L i ≠ sl ∧ ∀ j k2, W.servers.getD j none = some k2 → L j = L i → j = i)
/-- all but the desk's lists kept -/
abbrev Kp (M : List Addr) (H H' : Hp) : Prop := ∀ b o, H b = some o → b ∉ M → H' b = some o
theorem RulO.mono {K : PySem.W.Frag} {H H' : Hp} {v : V} {o : Option SR} (e : Im H H') (h : RulO K H v o) : RulO K H' v o := by
  cases o with
  | none => exact h
  | some r => obtain ⟨a, h1, h2⟩ := h; exact ⟨a, h1, h2.im e⟩
theorem SrvAt.bt {K : PySem.W.Frag} {H H' : Hp} {l l2 a : Addr} {vs : List V} {r : SR} {ds : List SD} (h : H l = some (.lst vs)) (e : Bt l H H') (ne : l2 ≠ l) (hS : SrvAt K H a l2 r ds) : SrvAt K H' a l2 r ds := by
  obtain ⟨dx, ra, us, h1, h2, h3, h4⟩ := hS
  have im := Im.bt h e
  exact ⟨dx, ra, us, e.at (fun z => by rw [z, h] at h1; cases h1) h1, h2.im im, e.at ne h3, h4.im im⟩
theorem SlotAt.bt {K : PySem.W.Frag} {H H' : Hp} {l l2 : Addr} {v : V} {vs : List V} {o : Option Course} (h : H l = some (.lst vs)) (e : Bt l H H') (ne : o ≠ none → l2 ≠ l) (hS : SlotAt K H v l2 o) : SlotAt K H' v l2 o := by
  cases o with
  | none => exact hS
  | some c => obtain ⟨a, r, h1, h2, h3⟩ := hS; exact ⟨a, r, h1, h2.bt h e (ne (by simp)), h3⟩
theorem SlotAt.mono {K : PySem.W.Frag} {H H' : Hp} {l2 : Addr} {v : V} {o : Option Course} (e : Ex H H') (hS : SlotAt K H v l2 o) : SlotAt K H' v l2 o := by
  cases o with
  | none => exact hS
  | some c => obtain ⟨a, r, h1, h2, h3⟩ := hS; exact ⟨a, r, h1, h2.mono e, h3⟩
theorem DeskAt.mono {K : PySem.W.Frag} {H H' : Hp} {a : Addr} {W : SW} {M : List Addr} (e : Ex H H') (h : DeskAt K H a W M) : DeskAt K H' a W M := by
  obtain ⟨dx, rl, sl, rs, ss, L, h1, h2, h3, h4, h5, h6, h7, h8, h9⟩ := h
  exact ⟨dx, rl, sl, rs, ss, L, e _ _ h1, e _ _ h2, e _ _ h3, h4, h5, h6, fun i v hi => (h7 i v hi).mono (Im.of e), fun i v hi => (h8 i v hi).mono e, h9⟩
theorem getD_set {α : Type} {l : List (Option α)} {i j : Nat} {x : Option α} : (l.set i x).getD j none = if j = i ∧ i < l.length then x else l.getD j none := by
  rw [List.getD_eq_getElem?_getD, List.getD_eq_getElem?_getD]
  by_cases h : j = i
  · subst h
    by_cases h2 : j < l.length
    · rw [List.getElem?_set_self h2, if_pos ⟨rfl, h2⟩]; rfl
    · rw [if_neg (fun z => h2 z.2), List.set_eq_of_length_le (by omega)]
  · rw [List.getElem?_set_ne (Ne.symm h), if_neg (fun z => h z.1)]
/-- other rules in a slot -/
theorem DeskAt.rules {K : PySem.W.Frag} {H : Hp} {a dx rl sl ra : Addr} {rs ss : List V} {L : Nat → Addr} {W : SW} {M : List Addr} {q : Nat} {r : SR} (hq : q < 4)
    (h : H a = some (.ins (He.ga K "Desk") dx (dkF rl sl)) ∧ H rl = some (.lst rs) ∧ H sl = some (.lst ss) ∧ rl ≠ sl ∧ (rl ∈ M ∧ sl ∈ M) ∧ (W.rules.length = 4 ∧ W.servers.length = 4 ∧ rs.length = 4 ∧ ss.length = 4) ∧ (∀ i v, rs[i]? = some v → RulO K H v (W.rules.getD i none)) ∧ (∀ i v, ss[i]? = some v → SlotAt K H v (L i) (W.servers.getD i none)) ∧
      (∀ i k, W.servers.getD i none = some k → L i ∈ M ∧ L i ≠ rl ∧ L i ≠ sl ∧ ∀ j k2, W.servers.getD j none = some k2 → L j = L i → j = i))
    (hr : RulesAt K H ra r) : DeskAt K (upd H rl (.lst (rs.set q (.ref ra)))) a { W with rules := W.rules.set q (some r) } M := by
  obtain ⟨h1, h2, h3, h4, h5, ⟨l1, l2, l3, l4⟩, h7, h8, h9⟩ := h
  have bt : Bt rl H (upd H rl (.lst (rs.set q (.ref ra)))) := (Bt.of (Ex.refl H)).upd
  have im := Im.bt h2 bt
  refine ⟨dx, rl, sl, rs.set q (.ref ra), ss, L, bt.at (fun z => by rw [z, h2] at h1; cases h1) h1, upd_same, bt.at (Ne.symm h4) h3, h4, h5, ⟨by rw [List.length_set]; exact l1, l2, by rw [List.length_set]; exact l3, l4⟩, fun i v hi => ?_, fun i v hi => (h8 i v hi).bt h2 bt fun hn => ?_, h9⟩
  · show RulO K _ v ((W.rules.set q (some r)).getD i none)
    rw [getD_set]
    by_cases z : i = q
    · subst z
      rw [if_pos ⟨rfl, by omega⟩]
      rw [List.getElem?_set_self (by omega)] at hi
      injection hi with hi
      exact ⟨ra, hi.symm, hr.im im⟩
    · rw [if_neg (fun y => z y.1)]
      rw [List.getElem?_set_ne (Ne.symm z)] at hi
      exact (h7 i v hi).mono im
  · cases hk : W.servers.getD i none with
    | none => exact absurd hk hn
    | some k => exact (h9 i k hk).2.1
/-- another server in a slot: its list is new -/
theorem DeskAt.server {K : PySem.W.Frag} {H : Hp} {a dx rl sl b lb : Addr} {rs ss : List V} {L : Nat → Addr} {W : SW} {M : List Addr} {p : Nat} {r : SR} {c : Course} (hp : p < 4)
    (h : H a = some (.ins (He.ga K "Desk") dx (dkF rl sl)) ∧ H rl = some (.lst rs) ∧ H sl = some (.lst ss) ∧ rl ≠ sl ∧ (rl ∈ M ∧ sl ∈ M) ∧ (W.rules.length = 4 ∧ W.servers.length = 4 ∧ rs.length = 4 ∧ ss.length = 4) ∧ (∀ i v, rs[i]? = some v → RulO K H v (W.rules.getD i none)) ∧ (∀ i v, ss[i]? = some v → SlotAt K H v (L i) (W.servers.getD i none)) ∧
      (∀ i k, W.servers.getD i none = some k → L i ∈ M ∧ L i ≠ rl ∧ L i ≠ sl ∧ ∀ j k2, W.servers.getD j none = some k2 → L j = L i → j = i))
    (hs : SrvAt K H b lb r c.states) (hg : Good r c.states ∧ c.states ≠ [] ∧ c.states.length ≤ 301) (n1 : lb ≠ rl) (n2 : lb ≠ sl) (n3 : ∀ i k, W.servers.getD i none = some k → L i ≠ lb) : DeskAt K (upd H sl (.lst (ss.set p (.ref b)))) a (R7239g.Spec.putServer W p c) (lb :: M) := by
  obtain ⟨h1, h2, h3, h4, h5, ⟨l1, l2, l3, l4⟩, h7, h8, h9⟩ := h
  have bt : Bt sl H (upd H sl (.lst (ss.set p (.ref b)))) := (Bt.of (Ex.refl H)).upd
  have im := Im.bt h3 bt
  have gs : ∀ i, (R7239g.Spec.putServer W p c).servers.getD i none = if i = p then some c else W.servers.getD i none := fun i => by
    show (W.servers.set p (some c)).getD i none = _
    rw [getD_set]
    by_cases z : i = p
    · rw [if_pos ⟨z, by omega⟩, if_pos z]
    · rw [if_neg (fun y => z y.1), if_neg z]
  refine ⟨dx, rl, sl, rs, ss.set p (.ref b), fun i => if i = p then lb else L i, bt.at (fun z => by rw [z, h3] at h1; cases h1) h1, bt.at h4 h2, upd_same, h4, ⟨List.mem_cons_of_mem _ h5.1, List.mem_cons_of_mem _ h5.2⟩, ⟨l1, by show (W.servers.set p (some c)).length = 4; rw [List.length_set]; exact l2, l3, by rw [List.length_set]; exact l4⟩, fun i v hi => (h7 i v hi).mono im, fun i v hi => ?_, fun i k hk => ?_⟩
  · rw [gs]
    dsimp only
    by_cases z : i = p
    · subst z
      rw [if_pos rfl, if_pos rfl]
      rw [List.getElem?_set_self (by omega)] at hi
      injection hi with hi
      exact ⟨b, r, hi.symm, hs.bt h3 bt n2, hg⟩
    · rw [if_neg z, if_neg z]
      rw [List.getElem?_set_ne (Ne.symm z)] at hi
      refine (h8 i v hi).bt h3 bt fun hn => ?_
      cases hk : W.servers.getD i none with
      | none => exact absurd hk hn
      | some k => exact (h9 i k hk).2.2.1
  · rw [gs] at hk
    dsimp only
    by_cases z : i = p
    · rw [if_pos z]
      refine ⟨List.mem_cons_self, n1, n2, fun j k2 hj e => ?_⟩
      rw [gs] at hj
      by_cases y : j = p
      · rw [y, z]
      · rw [if_neg y] at hj e
        exact absurd e (n3 j k2 hj)
    · rw [if_neg z] at hk ⊢
      obtain ⟨g1, g2, g3, g4⟩ := h9 i k hk
      refine ⟨List.mem_cons_of_mem _ g1, g2, g3, fun j k2 hj e => ?_⟩
      rw [gs] at hj
      by_cases y : j = p
      · rw [if_pos y] at e
        exact absurd e.symm (n3 i k hk)
      · rw [if_neg y] at hj e
        exact g4 j k2 hj e
/-- a server under way -/
theorem DeskAt.course {K : PySem.W.Frag} {H H' : Hp} {a dx rl sl b : Addr} {rs ss : List V} {L : Nat → Addr} {W : SW} {M : List Addr} {p : Nat} {r : SR} {c k : Course} (hp : p < 4) (hk : W.servers.getD p none = some k) (hb : ss[p]? = some (.ref b))
    (h : H a = some (.ins (He.ga K "Desk") dx (dkF rl sl)) ∧ H rl = some (.lst rs) ∧ H sl = some (.lst ss) ∧ rl ≠ sl ∧ (rl ∈ M ∧ sl ∈ M) ∧ (W.rules.length = 4 ∧ W.servers.length = 4 ∧ rs.length = 4 ∧ ss.length = 4) ∧ (∀ i v, rs[i]? = some v → RulO K H v (W.rules.getD i none)) ∧ (∀ i v, ss[i]? = some v → SlotAt K H v (L i) (W.servers.getD i none)) ∧
      (∀ i k, W.servers.getD i none = some k → L i ∈ M ∧ L i ≠ rl ∧ L i ≠ sl ∧ ∀ j k2, W.servers.getD j none = some k2 → L j = L i → j = i))
    (hl : ∃ vs, H (L p) = some (.lst vs)) (bt : Bt (L p) H H') (hs : SrvAt K H' b (L p) r c.states) (hg : Good r c.states ∧ c.states ≠ [] ∧ c.states.length ≤ 301) : DeskAt K H' a (R7239g.Spec.putServer W p c) M := by
  obtain ⟨h1, h2, h3, h4, h5, ⟨l1, l2, l3, l4⟩, h7, h8, h9⟩ := h
  obtain ⟨vs, hl⟩ := hl
  have im := Im.bt hl bt
  obtain ⟨g1, g2, g3, g4⟩ := h9 p k hk
  have gs : ∀ i, (R7239g.Spec.putServer W p c).servers.getD i none = if i = p then some c else W.servers.getD i none := fun i => by
    show (W.servers.set p (some c)).getD i none = _
    rw [getD_set]
    by_cases z : i = p
    · rw [if_pos ⟨z, by omega⟩, if_pos z]
    · rw [if_neg (fun y => z y.1), if_neg z]
  refine ⟨dx, rl, sl, rs, ss, L, bt.at (fun z => by rw [z, hl] at h1; cases h1) h1, bt.at (Ne.symm g2) h2, bt.at (Ne.symm g3) h3, h4, h5, ⟨l1, by show (W.servers.set p (some c)).length = 4; rw [List.length_set]; exact l2, l3, l4⟩, fun i v hi => (h7 i v hi).mono im, fun i v hi => ?_, fun i k2 hk2 => ?_⟩
  · rw [gs]
    by_cases z : i = p
    · subst z
      rw [if_pos rfl]
      rw [hb] at hi
      injection hi with hi
      exact ⟨b, r, hi.symm, hs, hg⟩
    · rw [if_neg z]
      refine (h8 i v hi).bt hl bt fun hn e => ?_
      cases hk3 : W.servers.getD i none with
      | none => exact absurd hk3 hn
      | some k3 => exact z (g4 i k3 hk3 e)
  · have old : ∃ k3, W.servers.getD i none = some k3 := by
      rw [gs] at hk2
      by_cases z : i = p
      · exact ⟨k, by rw [z]; exact hk⟩
      · rw [if_neg z] at hk2; exact ⟨_, hk2⟩
    obtain ⟨k3, hk3⟩ := old
    obtain ⟨f1, f2, f3, f4⟩ := h9 i k3 hk3
    refine ⟨f1, f2, f3, fun j k4 hj e => ?_⟩
    rw [gs] at hj
    by_cases y : j = p
    · rw [y] at e ⊢; exact f4 p k hk e
    · rw [if_neg y] at hj; exact f4 j k4 hj e
def spDI (K : PySem.W.Frag) : Sp := fun vs H Q _ => ∃ (p dx : Addr), vs = [.ref p] ∧ H p = some (.ins (He.ga K "Desk") dx []) ∧ ∀ rl sl H', H' p = some (.ins (He.ga K "Desk") dx (dkF rl sl)) → H rl = none → H sl = none → rl ≠ sl → H' rl = some (.lst (List.replicate 4 .non)) → H' sl = some (.lst (List.replicate 4 .non)) → (∀ b o, H b = some o → b ≠ p → H' b = some o) → Q .non H'
theorem el_rep4 {σ : L2.St} {F : Hp} : EvL (tOp rRep (tLst (tCons (tC .non) tNil)) (tC (.int 4))) σ F (List.replicate 4 .non) := fun H1 e Q q =>
  ⟨sz_of (by show 1 ≤ 100000; decide), fun p hp => ⟨p, 4, [.non], rfl, rfl, upd_same, by decide, by decide, sz_of (by show 1 * 4 ≤ 100000; decide), fun z hz => q z _ (fresh_back (Ex.new hp) hz) ((Ex.new hp).trans (Ex.new hz)) upd_same⟩⟩
local macro_rules
  | `(tactic| walk_at "ev") => `(tactic| first
    | exact ev_c
    | exact ev_var rfl
    | ((with_reducible refine' ev_fld ?k1 ?k2 ?k3 ?k4 ?k5); (case k1 => walk_at "ev"); (case k2 => assumption); (case k3 => exact Tx.cl (by assumption) rfl); (case k4 => exact Tx.na (by assumption) rfl); (case k5 => rfl))
    | (refine' ev_st ?k1 ?k2 ?k3; (case k1 => walk_at "ev"); (case k2 => assumption); (case k3 => assumption))
    | ((with_reducible refine' ev_ixT ?k1 ?k2 ?k3 ?k4); (case k1 => walk_at "ev"); (case k2 => walk_at "ev"); (case k3 => assumption); (case k4 => first | assumption | rfl))
    | (refine' ev_isN ?k1; (case k1 => walk_at "ev"))
    | (refine' ev_notN ?k1; (case k1 => walk_at "ev"))
    | (refine' ev_int ?k1 ?k2; (case k1 => walk_at "ev"); (case k2 => walk_at "ev"))
    | ((with_reducible refine' ev_sc ?k1 ?k2 ?k3); (case k1 => walk_at "ev"); (case k2 => walk_at "ev"); (case k3 => rfl))
    | ((with_reducible refine' ev_scn ?k1 ?k2 ?k3); (case k1 => walk_at "ev"); (case k2 => walk_at "ev"); (case k3 => rfl))
    | ((with_reducible refine' ev_notV ?k1); (case k1 => walk_at "ev"))
    | ((with_reducible refine' ev_andV ?k1 ?k2); (case k1 => walk_at "ev"); (case k2 => intro _; walk_at "ev"))
    | ((with_reducible refine' ev_orV ?k1 ?k2); (case k1 => walk_at "ev"); (case k2 => intro _; walk_at "ev"))
    | ((with_reducible refine' et_test ?k1); (case k1 => walk_at "ev"))
    | ((with_reducible refine' et_B ?k1); (case k1 => walk_at "ev"))
    | ((with_reducible refine' et_and ?k1 ?k2); (case k1 => walk_at "ev"); (case k2 => intro _; walk_at "ev"))
    | ((with_reducible refine' et_or ?k1 ?k2); (case k1 => walk_at "ev"); (case k2 => intro _; walk_at "ev"))
    | ((with_reducible refine' et_not ?k1); (case k1 => walk_at "ev"))
    | exact ea_nil
    | ((with_reducible refine' ea_cons ?k1 ?k2); (case k1 => walk_at "ev"); (case k2 => walk_at "ev")))
section
variable {P : Program} {w : World} {K : PySem.W.Frag} {mg : Str → Option Value} {base : Heap}
theorem sc_Desk_init : FnScope ["self"] ["self"] d_Desk_init.scope := ⟨rfl, rfl, rfl, by decide +kernel, rfl, by decide +kernel, by decide +kernel⟩
theorem ok_Desk_init (T : Tx w K mg) : FnOk P w K mg base CX0 1 (He.ma K (He.ga K "Desk") "__init__") (fdOf K (He.ma K (He.ga K "Desk") "__init__")) ["self"] (spDI K) := by
  refine mkOk T.F_Desk_init ⟨rfl, rfl⟩ sc_Desk_init (fun vs H Q E h => ?_) (fun cdv A outer s H vs Q E hr h => ⟨_, (pss_cons (ps_fld (pv 0) (pe_op op_rep (pe_lst (pa_cons pe_non pa_nil)) (pe_gc rfl T.i_SLOTS)) rfl) (pss_one (ps_fld (pv 0) (pe_op op_rep (pe_lst (pa_cons pe_non pa_nil)) (pe_gc rfl T.i_SLOTS)) rfl))), ?_⟩)
  · (repeat (first | exact congrArg List.length h.1 | obtain ⟨_, h⟩ := h))
  · obtain ⟨p, dx, rfl, hp, q⟩ := h
    refine el_rep4 H (Ex.refl H) _ fun rl H1 n1 x1 h1 => ?_
    refine ⟨_, rfl, p, _, dx, [], rfl, x1 _ _ hp, T.c_Desk, T.n_Desk_rules, (by show 0 < 1000; decide), ?_⟩
    have pr : rl ≠ p := fun z => by rw [z, hp] at n1; cases n1
    dsimp only
    generalize hH2 : upd H1 p (.ins (He.ga K "Desk") dx (putF "rules" (.ref rl) [])) = H2
    have hp2 : H2 p = some (.ins (He.ga K "Desk") dx [("rules", .ref rl)]) := by rw [← hH2]; exact upd_same
    have k2 : ∀ b o, H1 b = some o → b ≠ p → H2 b = some o := fun b o e n => by rw [← hH2, upd_ne n]; exact e
    refine el_rep4 H2 (Ex.refl H2) _ fun sl H3 n3 x3 h3 => ?_
    have ps : sl ≠ p := fun z => by rw [z, hp2] at n3; cases n3
    refine ⟨_, rfl, p, _, dx, _, rfl, x3 _ _ hp2, T.c_Desk, T.n_Desk_servers, (by show 1 < 1000; decide), ?_⟩
    have n4 : H1 sl = none := by rw [← hH2, upd_ne ps] at n3; exact n3
    have rs : rl ≠ sl := fun z => by rw [← z, h1] at n4; cases n4
    refine q rl sl _ upd_same n1 (fresh_back x1 n4) rs ?_ ?_ fun b o hb hbp => ?_
    · rw [upd_ne pr]; exact x3 _ _ (k2 _ _ h1 pr)
    · rw [upd_ne ps]; exact h3
    · rw [upd_ne hbp]; exact x3 _ _ (k2 _ _ (x1 _ _ hb) hbp)
end
end Sl
/-! ## SlDk2 -/
namespace Sl
open PySem PySem.Spec PyProof.Rows L2 Evl
open R7239g.Spec (Err Res Plain Ans Course newDesk andThen requireRules deskOf makeRules courseStep undoStep courseAt rangeErrorWith stepAnswer happen)
abbrev DeskT (K : PySem.W.Frag) (H : Hp) (a dx rl sl : Addr) (rs ss : List V) (L : Nat → Addr) (W : SW) (M : List Addr) : Prop := H a = some (.ins (He.ga K "Desk") dx (dkF rl sl)) ∧ H rl = some (.lst rs) ∧ H sl = some (.lst ss) ∧ rl ≠ sl ∧ (rl ∈ M ∧ sl ∈ M) ∧ (W.rules.length = 4 ∧ W.servers.length = 4 ∧ rs.length = 4 ∧ ss.length = 4) ∧ (∀ i v, rs[i]? = some v → RulO K H v (W.rules.getD i none)) ∧ (∀ i v, ss[i]? = some v → SlotAt K H v (L i) (W.servers.getD i none)) ∧
      (∀ i k, W.servers.getD i none = some k → L i ∈ M ∧ L i ≠ rl ∧ L i ≠ sl ∧ ∀ j k2, W.servers.getD j none = some k2 → L j = L i → j = i)
theorem DeskT.mono {K : PySem.W.Frag} {H H' : Hp} {a dx rl sl : Addr} {rs ss : List V} {L : Nat → Addr} {W : SW} {M : List Addr} (e : Ex H H') (h : DeskT K H a dx rl sl rs ss L W M) : DeskT K H' a dx rl sl rs ss L W M := by
  obtain ⟨h1, h2, h3, h4, h5, h6, h7, h8, h9⟩ := h
  exact ⟨e _ _ h1, e _ _ h2, e _ _ h3, h4, h5, h6, fun i v hi => (h7 i v hi).mono (Im.of e), fun i v hi => (h8 i v hi).mono e, h9⟩
/-- how the desk's lists go on -/
def MA (M : List Addr) (H : Hp) : Prop := ∀ m ∈ M, H m ≠ none
def Nx (M M' : List Addr) (H H' : Hp) : Prop := (∀ m ∈ M', m ∈ M ∨ H m = none) ∧ (∀ m ∈ M, m ∈ M') ∧ MA M' H'
theorem MA.ex {M : List Addr} {H H' : Hp} (h : MA M H) (e : Ex H H') : MA M H' := fun m hm z => h m hm (fresh_back e z)
theorem MA.upd {M : List Addr} {H : Hp} {l : Addr} {o : HO} (h : MA M H) : MA M (upd H l o) := fun m hm z => by
  by_cases y : m = l
  · rw [y, upd_same] at z; cases z
  · rw [upd_ne y] at z; exact h m hm z
theorem MA.bt {M : List Addr} {H H' : Hp} {l : Addr} (h : MA M H) (e : Bt l H H') (hl : H' l ≠ none) : MA M H' := fun m hm z => h m hm (e.fresh z hl)
theorem MA.cons {M : List Addr} {H : Hp} {l : Addr} (h : MA M H) (hl : H l ≠ none) : MA (l :: M) H := fun m hm => (List.mem_cons.mp hm).elim (fun e => by rw [e]; exact hl) fun hm => h m hm
theorem Nx.same {M : List Addr} {H H' : Hp} (h : MA M H') : Nx M M H H' := ⟨fun m hm => .inl hm, fun m hm => hm, h⟩
theorem Nx.cons {M : List Addr} {H H' : Hp} {l : Addr} (hl : H l = none) (h : MA M H') (h2 : H' l ≠ none) : Nx M (l :: M) H H' := ⟨fun m hm => (List.mem_cons.mp hm).elim (fun e => .inr (by rw [e]; exact hl)) .inl, fun m hm => List.mem_cons_of_mem _ hm, h.cons h2⟩
theorem SrvAt.ne {K : PySem.W.Frag} {H : Hp} {a l : Addr} {r : SR} {ds : List SD} (h : SrvAt K H a l r ds) : H l ≠ none := by
  obtain ⟨_, _, _, _, _, z, _⟩ := h
  rw [z]; simp
theorem up_ne {G H' : Hp} {l b : Addr} {o : HO} (h : G b ≠ none) (e : Ex (upd G l o) H') : H' b ≠ none := fun z => by
  have z2 := fresh_back e z
  by_cases y : b = l
  · rw [y, upd_same] at z2; cases z2
  · rw [upd_ne y] at z2; exact h z2
def DcPost (K : PySem.W.Frag) (H : Hp) (a : Addr) (M : List Addr) (res : SW × Ans) (Q : VK) (E : XK) : Prop := (∀ e, res.2 = .fail e → Out K H E e) ∧
  ∀ p, res.2 = .ret p → ∀ v H' M', DeskAt K H' a res.1 M' → Kp M H H' → Nx M M' H H' → ValAt K H' v (gv p) → Q v H'
def spDC (K : PySem.W.Frag) : Sp := fun vs H Q E => ∃ (a : Addr) (door : Nat) (al : Addr) (us : List V) (args : List Val) (W : SW) (M : List Addr) (res : SW × Ans), vs = [.ref a, .int door, .ref al] ∧ DeskAt K H a W M ∧ MA M H ∧ H al = some (.lst us) ∧ ValsAt K H us args ∧ args.length = manyL.getD door 0 ∧ CallIs W door args res ∧ DcPost K H a M res Q E
section
variable {K : PySem.W.Frag} {σ : L2.St} {F : Hp} {te tf tg to ta t1 t2 t3 : TE} {tz : TS} {D : Ends} {E : XK} {sp : Sp} {v1 v2 : V} {xs : List V}
theorem pr_call3 (h1 : Ev t1 σ F v1) (h2 : Ev t2 σ F v2) (h3 : EvL t3 σ F xs) (k : ∀ p H, Ex F H → H p = some (.lst xs) → sp [v1, v2, .ref p] H D.rt E) : Pr (tRet (tCall sp [] E (tCons t1 (tCons t2 (tCons t3 tNil))))) D σ F := fun H x =>
  h1 H x _ fun H1 x1 => h2 H1 (x.trans x1) _ fun H2 x2 => h3 H2 ((x.trans x1).trans x2) _ fun p H3 np x3 hp => k p H3 (((x.trans x1).trans x2).trans x3) hp
theorem pr_meth2 {a C dx : Addr} {fs : List (Str × V)} {m : Str} (ho : Ev to σ F (.ref a)) (hi : F a = some (.ins C dx fs)) (hm : fs.lookup m = none) (h2 : Ev t2 σ F v2) (h3 : EvL t3 σ F xs) (k : ∀ p H, Ex F H → H p = some (.lst xs) → sp [.ref a, v2, .ref p] H D.rt E) : Pr (tRet (tMeth C m sp [] E to (tCons t2 (tCons t3 tNil)))) D σ F := fun H x =>
  ho H x _ fun H1 x1 => ⟨a, dx, fs, rfl, x1 _ _ (x _ _ hi), hm, h2 H1 (x.trans x1) _ fun H2 x2 => h3 H2 ((x.trans x1).trans x2) _ fun p H3 np x3 hp => k p H3 (((x.trans x1).trans x2).trans x3) hp⟩
theorem ev_rin {a dx rl sl ra : Addr} {us : List V} {n : Nat} (hn : n < 4) (ho : Ev to σ F (.ref a)) (h : Ev te σ F (.int n)) (h1 : F a = some (.ins (He.ga K "Desk") dx (dkF rl sl))) (h2 : F rl = some (.lst us)) (h3 : us[n]? = some (.ref ra)) : Ev (tMeth (He.ga K "Desk") "rules_in" (spRIn K) [] E to (tCons te tNil)) σ F (.ref ra) := fun H x Q q =>
  ho H x _ fun H1 x1 => ⟨a, dx, _, rfl, x1 _ _ (x _ _ h1), rfl, h H1 (x.trans x1) _ fun H2 x2 => ⟨a, dx, rl, sl, ra, us, n, rfl, hn, x2 _ _ (x1 _ _ (x _ _ h1)), x2 _ _ (x1 _ _ (x _ _ h2)), h3, fun H3 x3 => q H3 ((x1.trans x2).trans x3)⟩⟩
theorem ev_sin {a dx rl sl ra : Addr} {us : List V} {n : Nat} (hn : n < 4) (ho : Ev to σ F (.ref a)) (h : Ev te σ F (.int n)) (h1 : F a = some (.ins (He.ga K "Desk") dx (dkF rl sl))) (h2 : F sl = some (.lst us)) (h3 : us[n]? = some (.ref ra)) : Ev (tMeth (He.ga K "Desk") "server_in" (spSIn K) [] E to (tCons te tNil)) σ F (.ref ra) := fun H x Q q =>
  ho H x _ fun H1 x1 => ⟨a, dx, _, rfl, x1 _ _ (x _ _ h1), rfl, h H1 (x.trans x1) _ fun H2 x2 => ⟨a, dx, rl, sl, ra, us, n, rfl, hn, x2 _ _ (x1 _ _ (x _ _ h1)), x2 _ _ (x1 _ _ (x _ _ h2)), h3, fun H3 x3 => q H3 ((x1.trans x2).trans x3)⟩⟩
/-- xs[i] = e, behind it the list anew -/
theorem pr_setG {P : V → Hp → Prop} {l : Addr} {xs : List V} {j : Nat} (h : Eg te σ F P) (ho : Ev ta σ F (.ref l)) (hi : Ev tf σ F (.int (j : Int))) (hl : F l = some (.lst xs)) (hj : j < xs.length) (m : Mo P) (k : ∀ v H, Ex F H → P v H → Pr tz D σ (upd H l (.lst (xs.set j v)))) :
    Pr (tSeq (tAsg te (gSub ta tf rSetL)) tz) D σ F := fun H x => h H x _ fun v H1 x1 p => ho H1 (x.trans x1) _ fun H2 x2 => hi H2 ((x.trans x1).trans x2) _ fun H3 x3 =>
  ⟨l, xs, (j : Int), j, rfl, rfl, (((x.trans x1).trans x2).trans x3) l _ hl, ixN_nat hj, k v H3 (((x.trans x1).trans x2).trans x3) (m _ _ _ (x2.trans x3) p) _ (Ex.refl _)⟩
theorem er_pl {x : Val} {r : SR} {ra : Addr} {e : Err} (h1 : Ev t1 σ F (.ref ra)) (h2 : EgV K t2 σ F x) (hr : RulesAt K F ra r) (hpl : plRes r x = .error e) (B : Out K F E e) : Er (tCall (spPl K) [] E (tCons t1 (tCons t2 tNil))) σ F := fun H y Q =>
  h1 H y _ fun H2 x2 => h2 H2 (y.trans x2) _ fun v H3 x3 hv => ⟨ra, r, v, x, rfl, hr.mono ((y.trans x2).trans x3), hv, fun e' he => (by rw [hpl] at he; injection he with he; subst he; exact B.mono ((y.trans x2).trans x3)), fun ds hd => by rw [hpl] at hd; cases hd⟩
theorem eg_pl {x : Val} {r : SR} {ra : Addr} {ds : List SD} (h1 : Ev t1 σ F (.ref ra)) (h2 : EgV K t2 σ F x) (hr : RulesAt K F ra r) (hpl : plRes r x = .ok ds) :
    Eg (tCall (spPl K) [] E (tCons t1 (tCons t2 tNil))) σ F fun v G => ∃ b lb, v = .ref b ∧ SrvAt K G b lb r ds ∧ (Good r ds ∧ ds ≠ [] ∧ ds.length ≤ 301) ∧ F b = none ∧ F lb = none := fun H y Q q =>
  h1 H y _ fun H2 x2 => h2 H2 (y.trans x2) _ fun v H3 x3 hv => ⟨ra, r, v, x, rfl, hr.mono ((y.trans x2).trans x3), hv, fun e' he => (by rw [hpl] at he; cases he), fun ds' hd hG hne hl b lb H4 x4 nb nlb hs => by
    rw [hpl] at hd; injection hd with hd; subst hd
    have z := y.trans (x2.trans x3)
    exact q _ H4 ((x2.trans x3).trans x4) ⟨b, lb, rfl, hs, ⟨hG, hne, hl⟩, fresh_back z nb, fresh_back z nlb⟩⟩
theorem er_if {t : TT} {b : Bool} (ht : EvT t σ F b) (h1 : b = true → Er ta σ F) (h2 : b = false → Er tf σ F) : Er (tIf t ta tf) σ F := fun H e Q => ht H e _ fun H1 e1 => by
  cases b with
  | true => rw [if_pos rfl]; exact h1 rfl H1 (e.trans e1) Q
  | false => rw [if_neg (by decide)]; exact h2 rfl H1 (e.trans e1) Q
end
theorem ValsAt.drop {K : PySem.W.Frag} {H : Hp} : ∀ {vs : List V} {l : List Val}, ValsAt K H vs l → ValsAt K H (vs.drop 1) (l.drop 1)
  | vs, [], h => by
    obtain rfl : vs = [] := by unfold ValsAt at h; exact h
    show ValsAt K H [] []
    unfold ValsAt
    rfl
  | vs, x :: r, h => by
    unfold ValsAt at h
    obtain ⟨v, us, rfl, _, h2⟩ := h
    exact h2
theorem cut_1 {xs : List V} : cutV xs (some 1) none = xs.drop 1 := by
  unfold cutV
  rw [show (1 : Int) = ((1 : Nat) : Int) from rfl, HT.sIx_nat, HT.sIx_none]
  cases xs with
  | nil => rfl
  | cons a r =>
    have : min 1 (a :: r).length = 1 := Nat.min_eq_left (by rw [List.length_cons]; omega)
    rw [this, List.length_cons]
    exact List.take_of_length_le (by rw [List.drop_succ_cons, List.drop_zero]; omega)
theorem ans_er {x : Res Plain} {e : Err} (h : x = .error e) : ansOf x = .fail e := by rw [h]; rfl
theorem ans_ok {x : Res Plain} {p : Plain} (h : x = .ok p) : ansOf x = .ret p := by rw [h]; rfl
local macro_rules
  | `(tactic| walk_at "ev") => `(tactic| first
    | exact ev_c
    | exact ev_var rfl
    | ((with_reducible refine' ev_fld ?k1 ?k2 ?k3 ?k4 ?k5); (case k1 => walk_at "ev"); (case k2 => assumption); (case k3 => exact Tx.cl (by assumption) rfl); (case k4 => exact Tx.na (by assumption) rfl); (case k5 => rfl))
    | (refine' ev_st ?k1 ?k2 ?k3; (case k1 => walk_at "ev"); (case k2 => assumption); (case k3 => assumption))
    | ((with_reducible refine' ev_ixT ?k1 ?k2 ?k3 ?k4); (case k1 => walk_at "ev"); (case k2 => walk_at "ev"); (case k3 => assumption); (case k4 => first | assumption | rfl))
    | (refine' ev_isN ?k1; (case k1 => walk_at "ev"))
    | (refine' ev_notN ?k1; (case k1 => walk_at "ev"))
    | (refine' ev_int ?k1 ?k2; (case k1 => walk_at "ev"); (case k2 => walk_at "ev"))
    | ((with_reducible refine' ev_sc ?k1 ?k2 ?k3); (case k1 => walk_at "ev"); (case k2 => walk_at "ev"); (case k3 => rfl))
    | ((with_reducible refine' ev_scn ?k1 ?k2 ?k3); (case k1 => walk_at "ev"); (case k2 => walk_at "ev"); (case k3 => rfl))
    | ((with_reducible refine' ev_notV ?k1); (case k1 => walk_at "ev"))
    | ((with_reducible refine' ev_andV ?k1 ?k2); (case k1 => walk_at "ev"); (case k2 => intro _; walk_at "ev"))
    | ((with_reducible refine' ev_orV ?k1 ?k2); (case k1 => walk_at "ev"); (case k2 => intro _; walk_at "ev"))
    | ((with_reducible refine' et_test ?k1); (case k1 => walk_at "ev"))
    | ((with_reducible refine' et_B ?k1); (case k1 => walk_at "ev"))
    | ((with_reducible refine' et_and ?k1 ?k2); (case k1 => walk_at "ev"); (case k2 => intro _; walk_at "ev"))
    | ((with_reducible refine' et_or ?k1 ?k2); (case k1 => walk_at "ev"); (case k2 => intro _; walk_at "ev"))
    | ((with_reducible refine' et_not ?k1); (case k1 => walk_at "ev"))
    | exact ea_nil
    | ((with_reducible refine' ea_cons ?k1 ?k2); (case k1 => walk_at "ev"); (case k2 => walk_at "ev")))
section
variable {P : Program} {w : World} {K : PySem.W.Frag} {mg : Str → Option Value} {base : Heap}
theorem sc_Desk_call : FnScope ["self", "door", "arguments", "slot", "rules", "server"] ["self", "door", "arguments"] d_Desk_call.scope := ⟨rfl, rfl, rfl, by decide +kernel, rfl, by decide +kernel, by decide +kernel⟩
theorem ok_Desk_call (T : Tx w K mg) : FnOk P w K mg base (Xr.CX P w) 10 (He.ma K (He.ga K "Desk") "call") (fdOf K (He.ma K (He.ga K "Desk") "call")) ["self", "door", "arguments"] (spDC K) := by
  refine mkOkR T.F_Desk_call sc_Desk_call (fun vs H Q E h => ?_) (fun cdv A outer s H vs Q E hr h => ⟨_, (pss_cons (ps_if (pt_cmpR op_eq (pv 1) pe_int (nomark _)) (pss_cons (ps_set (i := 3) sc_Desk_call.nd rfl (Or.inl rfl) (pe_call (ok_slot_of T) (hr.mono (by decide)) rfl T.g_slot_of T.kp_slot_of T.B_slot_of .nil pass0 (pa_cons (pe_ix ix_list (pv 2) pe_int (fun _ _ => rfl)) pa_nil))) (pss_cons (ps_asg (pe_call (ok_read_rules T) (hr.mono (by decide)) rfl T.g_read_rules T.kp_read_rules T.B_read_rules .nil (passNR (Xr.takes_of rfl rfl rfl rfl)) (pa_cons (pe_ix ix_list (pv 2) pe_int (fun _ _ => rfl)) pa_nil)) (pg_sub (pe_fld (pv 0) rfl) (pv 3) set_list)) (pss_one (ps_ret (pe_new0 T.noth.1 T.noth.2 (Tx.kp_Nothing T) rfl T.g_Nothing))))) pss_nil) (pss_cons (ps_if (pt_cmpR op_le (pv 1) pe_int (nomark _)) (pss_one (ps_ret (pe_call (ok_about_rules T) (hr.mono (by decide)) rfl T.g_about_rules T.kp_about_rules T.B_about_rules .nil (passNR (Xr.takes_of rfl rfl rfl rfl)) (pa_cons (pv 1) (pa_cons (pe_meth (pv 0) T.c_Desk T.m_Desk_rules_in (ok_Desk_rules_in T) (hr.mono (by decide)) T.B_Desk_rules_in .nil pass0 (pa_cons (pe_ix ix_list (pv 2) pe_int (fun _ _ => rfl)) pa_nil)) (pa_cons (pe_slice sl_list (pv 2) (po_some pe_int) po_none) pa_nil)))))) pss_nil) (pss_cons (ps_if (pt_cmpR op_le (pv 1) pe_int (nomark _)) (pss_cons (ps_par (i := 3) (j := 4) rfl sc_Desk_call.nd rfl rfl (by decide) rfl rfl (pa_cons (pe_call (ok_slot_of T) (hr.mono (by decide)) rfl T.g_slot_of T.kp_slot_of T.B_slot_of .nil pass0 (pa_cons (pe_ix ix_list (pv 2) pe_int (fun _ _ => rfl)) pa_nil)) (pa_cons (pe_meth (pv 0) T.c_Desk T.m_Desk_rules_in (ok_Desk_rules_in T) (hr.mono (by decide)) T.B_Desk_rules_in .nil pass0 (pa_cons (pe_ix ix_list (pv 2) pe_int (fun _ _ => rfl)) pa_nil)) pa_nil)) (by rfl)) (pss_cons (ps_asg (pe_ifExp (pt_cmpR op_eq (pv 1) pe_int (nomark _)) (pe_make T.k_Server (ok_Server_init T) (hr.mono (by decide)) rfl T.g_Server T.B_Server_init .nil pass0 (pa_cons (pv 4) pa_nil)) (pe_call (ok_played T) (hr.mono (by decide)) rfl T.g_played T.kp_played T.B_played .nil (Xr.passes_call (Xr.takes_of rfl rfl rfl rfl) (fun _ _ _ _ h => h)) (pa_cons (pv 4) (pa_cons (pe_ix ix_list (pv 2) pe_int (fun _ _ => rfl)) pa_nil)))) (pg_sub (pe_fld (pv 0) rfl) (pv 3) set_list)) (pss_one (ps_ret (pe_new0 T.noth.1 T.noth.2 (Tx.kp_Nothing T) rfl T.g_Nothing))))) pss_nil) (pss_cons (ps_set (i := 5) sc_Desk_call.nd rfl (Or.inl rfl) (pe_meth (pv 0) T.c_Desk T.m_Desk_server_in (ok_Desk_server_in T) (hr.mono (by decide)) T.B_Desk_server_in .nil pass0 (pa_cons (pe_ix ix_list (pv 2) pe_int (fun _ _ => rfl)) pa_nil))) (pss_cons (ps_if (pt_cmpR op_le (pv 1) pe_int (nomark _)) (pss_one (ps_ret (pe_meth (pv 5) T.c_Server T.m_Server_step (ok_Server_step T) (hr.mono (by decide)) T.B_Server_step .nil (passNR (Xr.takes_of rfl rfl rfl rfl)) (pa_cons (pe_ix ix_tup (pe_glob (v := .ref (He.ga K "STEPS")) rfl T.g_STEPS rfl) (pe_op op_sub (pv 1) pe_int) (fun _ _ => rfl)) (pa_cons (pe_slice sl_list (pv 2) (po_some pe_int) po_none) pa_nil))))) pss_nil) (pss_one (ps_ret (pe_call (ok_about_server T) (hr.mono (by decide)) rfl T.g_about_server T.kp_about_server T.B_about_server .nil (passNR (Xr.takes_of rfl rfl rfl rfl)) (pa_cons (pv 1) (pa_cons (pv 5) (pa_cons (pe_slice sl_list (pv 2) (po_some pe_int) po_none) pa_nil))))))))))), ?_⟩)
  · (repeat (first | exact congrArg List.length h.1 | obtain ⟨_, h⟩ := h))
  · obtain ⟨a, door, al, us, args, W, M, res, rfl, hD, hMA, hal, hvs, hlen, hC, qe, qo⟩ := h
    obtain ⟨dx, rl, sl, rs, ss, L, hT⟩ := id hD
    have hT : DeskT K H a dx rl sl rs ss L W M := hT
    obtain ⟨h1, h2, h3, h4, ⟨h5, h6⟩, ⟨l1, l2, l3, l4⟩, h7, h8, h9⟩ := id hT
    have eqd : ∀ (n : Nat) (x y z : Option V) (G : Hp), EvT (tB (tOp rEq (tVar 1) (tC (.int n)))) [some (.ref a), some (.int door), some (.ref al), x, y, z] G (decide (door = n)) := fun n _ _ _ _ => et_is (et_B (ev_sc (x := .int door) (y := .int n) (ev_var rfl) ev_c rfl)) decN
    have led : ∀ (n : Nat) (x y z : Option V) (G : Hp), EvT (tB (tOp (rI0 fun i j => .bl (decide (i ≤ j))) (tVar 1) (tC (.int n)))) [some (.ref a), some (.int door), some (.ref al), x, y, z] G (decide (door ≤ n)) := fun n _ _ _ _ => et_is (et_B (ev_int (g := fun i j => .bl (decide (i ≤ j))) (i := (door : Int)) (j := (n : Int)) (ev_var rfl) ev_c)) (decide_eq_decide.mpr (by omega))
    have arg : ∀ (i : Nat) (n : Nat) (σ : L2.St) (G : Hp), Ex H G → i < args.length → args.getD i .nothing = .int (n : Int) → σ[2]? = some (some (.ref al)) → Ev (tOp (rIxL K) (tVar 2) (tC (.int (i : Int)))) σ G (.int (n : Int)) := fun i n σ G eG hi hv hσ => by
      obtain ⟨v, e1, e2⟩ := hvs.get hi
      rw [hv] at e2
      obtain rfl : v = .int (n : Int) := by unfold ValAt at e2; exact e2
      exact ev_arg (ev_var hσ) (eG _ _ hal) (atI_nat e1)
    have argG : ∀ (i : Nat) (σ : L2.St) (G : Hp), Ex H G → i < args.length → σ[2]? = some (some (.ref al)) → EgV K (tOp (rIxL K) (tVar 2) (tC (.int (i : Int)))) σ G (args.getD i .nothing) := fun i σ G eG hi hσ => by
      obtain ⟨v, e1, e2⟩ := hvs.get hi
      exact eg_ev (ev_arg (ev_var hσ) (eG _ _ hal) (atI_nat e1)) fun H1 x1 => e2.mono (eG.trans x1)
    have sli : ∀ (σ : L2.St) (G : Hp), Ex H G → σ[2]? = some (some (.ref al)) → EvL (tSl (rSlL K) (tVar 2) (tPart (tC (.int 1))) tNoPart) σ G (us.drop 1) := fun σ G eG hσ => by
      have z := el_sl (K := K) (te := tVar 2) (σ := σ) (H := G) (ev_var hσ) (eo_some (te := tC (.int 1)) ev_c) eo_none (sq_of (eG _ _ hal))
      rw [cut_1] at z
      exact z
    have slot : ∀ i k, W.servers.getD i none = some k → i < 4 ∧ ∃ b r, ss[i]? = some (.ref b) ∧ SrvAt K H b (L i) r k.states ∧ Good r k.states ∧ k.states ≠ [] ∧ k.states.length ≤ 301 := fun i k hk => by
      have hi : i < 4 := by
        refine Classical.byContradiction fun hn => ?_
        rw [List.getD_eq_getElem?_getD, List.getElem?_eq_none (by omega)] at hk
        cases hk
      have hs := List.getElem?_eq_getElem (l := ss) (i := i) (by omega)
      have z3 := h8 i _ hs
      rw [hk] at z3
      obtain ⟨b, r, e, z⟩ := z3
      exact ⟨hi, b, r, by rw [hs, e], z⟩
    have sll : ∀ i k lb, W.servers.getD i none = some k → H lb = none → L i ≠ lb := fun i k lb hk n z => by
      obtain ⟨_, b, r, _, ⟨_, _, _, _, _, z2, _⟩, _⟩ := slot i k hk
      rw [z, n] at z2
      cases z2
    have rul : ∀ q r, q < 4 → W.rules.getD q none = some r → ∃ ra, rs[q]? = some (.ref ra) ∧ RulesAt K H ra r := fun q r hq hr => by
      have hrs := List.getElem?_eq_getElem (l := rs) (i := q) (by omega)
      have hro := h7 q _ hrs
      rw [hr] at hro
      obtain ⟨ra, e1, e2⟩ := hro
      exact ⟨ra, by rw [hrs, e1], e2⟩
    have hvd := hvs.drop
    have hld : (args.drop 1).length = args.length - 1 := List.length_drop
    cases hC with
    | rules q hq h0 =>
      have hlen2 : args.length = 2 := hlen
      refine pr_when (F := H) (b := decide (0 = 0)) (eqd 0 _ _ _ _) (fun _ => ?_) (fun h => Bool.noConfusion h) H (Ex.refl H)
      refine pr_asg (ev_slot hq (arg 0 q _ H (Ex.refl H) (by omega) h0 rfl)) ?_
      have hx1 : EgV K (tOp (rIxL K) (tVar 2) (tC (.int (1 : Nat)))) _ H (args.getD 1 .nothing) := argG 1 [some (.ref a), some (.int (0 : Nat)), some (.ref al), some (.int (q : Int)), none, none] H (Ex.refl H) (by omega) rfl
      have hm : makeRules W q (argV args 1) = match requireRules (Rust.taken (args.getD 1 .nothing)) with | .error e => (W, .fail e) | .ok r => ({ W with rules := W.rules.set q (some r) }, .ret .undef) := rfl
      cases hrr : requireRules (Rust.taken (args.getD 1 .nothing)) with
      | error e =>
        have hm2 : makeRules W q (argV args 1) = (W, .fail e) := by rw [hm, hrr]
        have B := qe e (by rw [hm2])
        exact pr_asgE fun H1 e1 Q2 => hx1 H1 e1 _ fun v H2 e2 hv => ⟨v, _, rfl, hv, (fun r hr => by rw [hrr] at hr; cases hr), fun e' he => by
          rw [hrr] at he; injection he with he; subst he; exact B.mono (e1.trans e2)⟩
      | ok r =>
        have hm2 : makeRules W q (argV args 1) = ({ W with rules := W.rules.set q (some r) }, .ret .undef) := by rw [hm, hrr]
        rw [hm2] at qo
        refine pr_setG (P := fun v G => ∃ ra, v = .ref ra ∧ RulesAt K G ra r) (l := rl) (xs := rs) (j := q) (fun H1 e1 Q2 q2 => hx1 H1 e1 _ fun v H2 e2 hv => ⟨v, _, rfl, hv, (fun r2 hr a2 H3 e3 h => ?_), fun e' he => by rw [hrr] at he; cases he⟩) (ev_fld (v := .ref rl) (ev_var rfl) h1 T.c_Desk T.n_Desk_rules rfl) (ev_var rfl) h2 (by omega) (fun v G G' eG z => by obtain ⟨ra, z1, z2⟩ := z; exact ⟨ra, z1, z2.mono eG⟩) fun v G eG hv => ?_
        · rw [hrr] at hr; injection hr with hr; subst hr
          exact q2 _ H3 (e2.trans e3) ⟨a2, rfl, h⟩
        · obtain ⟨ra, rfl, hra⟩ := hv
          have hN := DeskAt.rules hq (DeskT.mono eG hT) hra
          refine pr_noth (Dom.refl _) fun v H' e hv => qo _ rfl v H' M (hN.mono e) (fun b o hb nb => e _ _ ?_) (.same ((hMA.ex eG).upd.ex e)) (hv.mono nw_ex)
          rw [upd_ne (fun z => nb (by rw [z]; exact h5))]
          exact eG _ _ hb
    | about q r g1 g2 hq h0 hr =>
      have hl0 : 1 ≤ args.length ∧ (door = 6 → 4 ≤ args.length) := by
        rw [hlen]
        have : door = 1 ∨ door = 2 ∨ door = 3 ∨ door = 4 ∨ door = 5 ∨ door = 6 := by omega
        rcases this with rfl | rfl | rfl | rfl | rfl | rfl <;> exact ⟨by decide, by decide⟩
      refine pr_when (F := H) (b := false) (et_is (eqd 0 _ _ _ _) (decide_eq_false (by omega))) (fun h => Bool.noConfusion h) (fun _ => ?_) H (Ex.refl H)
      refine pr_when (b := true) (et_is (led 6 _ _ _ _) (decide_eq_true (by omega))) (fun _ => ?_) (fun h => Bool.noConfusion h)
      obtain ⟨ra, hrs, e2⟩ := rul q r hq hr
      refine pr_call3 (ev_var rfl) (ev_rin hq (ev_var rfl) (arg 0 q _ H (Ex.refl H) (by omega) h0 rfl) h1 h2 hrs) (sli _ H (Ex.refl H) rfl) fun al2 G eG hal2 => ?_
      refine ⟨door, ra, al2, r, us.drop 1, args.drop 1, rfl, g1, g2, e2.mono eG, hal2, hvd.mono eG, fun h => by have := hl0.2 h; omega, fun e he => (qe e (ans_er he)).mono eG, fun p hp v H' e hv => qo p (ans_ok hp) v H' M (hD.mono (eG.trans e)) (fun b o hb _ => (eG.trans e) _ _ hb) (.same (hMA.ex (eG.trans e))) hv⟩
    | new p q r hp hq h0 g0 hr =>
      have hlen2 : args.length = 2 := hlen
      refine pr_when (F := H) (b := false) (et_is (eqd 0 _ _ _ _) rfl) (fun h => Bool.noConfusion h) (fun _ => ?_) H (Ex.refl H)
      refine pr_when (b := false) (et_is (led 6 _ _ _ _) rfl) (fun h => Bool.noConfusion h) fun _ => ?_
      refine pr_when (b := true) (et_is (led 8 _ _ _ _) rfl) (fun _ => ?_) (fun h => Bool.noConfusion h)
      obtain ⟨ra, hrs, e2⟩ := rul q r hq hr
      refine pr_par (ea_cons (ev_slot hp (arg 0 p _ H (Ex.refl H) (by omega) h0 rfl)) (ea_cons (ev_rin hq (ev_var rfl) (arg 1 q _ H (Ex.refl H) (by omega) g0 rfl) h1 h2 hrs) ea_nil)) ?_
      refine pr_setG (P := fun v G => ∃ b lb, v = .ref b ∧ SrvAt K G b lb r [newDesk r] ∧ H b = none ∧ H lb = none) (l := sl) (xs := ss) (j := p) (eg_if (b := true) (et_is (eqd 7 _ _ _ _) rfl) (fun _ => eg_srv (ev_var rfl) e2) fun h => Bool.noConfusion h) (ev_fld (v := .ref sl) (ev_var rfl) h1 T.c_Desk T.n_Desk_servers rfl) (ev_var rfl) h3 (by omega) (fun v G G' eG z => by obtain ⟨b, lb, z1, z2, z3⟩ := z; exact ⟨b, lb, z1, z2.mono eG, z3⟩) fun v G eG hv => ?_
      obtain ⟨b, lb, rfl, hs, nb, nlb⟩ := hv
      have hN := DeskAt.server (c := ⟨[newDesk r]⟩) hp (DeskT.mono eG hT) hs ⟨Good.new r, by simp, by show 1 ≤ 301; decide⟩ (fun z => by rw [z, h2] at nlb; cases nlb) (fun z => by rw [z, h3] at nlb; cases nlb) fun i k hk => sll i k lb hk nlb
      refine pr_noth (Dom.refl _) fun v H' e hv => qo _ rfl v H' (lb :: M) (hN.mono e) (fun b o hb nb => e _ _ ?_) (.cons nlb ((hMA.ex eG).upd.ex e) (up_ne hs.ne e)) (hv.mono nw_ex)
      rw [upd_ne (fun z => nb (by rw [z]; exact h6))]
      exact eG _ _ hb
    | play p q r hp hq h0 g0 hr =>
      have hlen2 : args.length = 3 := hlen
      refine pr_when (F := H) (b := false) (et_is (eqd 0 _ _ _ _) rfl) (fun h => Bool.noConfusion h) (fun _ => ?_) H (Ex.refl H)
      refine pr_when (b := false) (et_is (led 6 _ _ _ _) rfl) (fun h => Bool.noConfusion h) fun _ => ?_
      refine pr_when (b := true) (et_is (led 8 _ _ _ _) rfl) (fun _ => ?_) (fun h => Bool.noConfusion h)
      obtain ⟨ra, hrs, e2⟩ := rul q r hq hr
      refine pr_par (ea_cons (ev_slot hp (arg 0 p _ H (Ex.refl H) (by omega) h0 rfl)) (ea_cons (ev_rin hq (ev_var rfl) (arg 1 q _ H (Ex.refl H) (by omega) g0 rfl) h1 h2 hrs) ea_nil)) ?_
      have hx2 := argG 2 [some (.ref a), some (.int (8 : Nat)), some (.ref al), some (.int (p : Int)), some (.ref ra), none] H (Ex.refl H) (by omega) rfl
      have hm : playRes W p r (args.getD 2 .nothing) = match plRes r (args.getD 2 .nothing) with | .error e => (W, .fail e) | .ok s => (R7239g.Spec.putServer W p ⟨s⟩, .ret .undef) := rfl
      cases hpl : plRes r (args.getD 2 .nothing) with
      | error e =>
        have hm2 : playRes W p r (args.getD 2 .nothing) = (W, .fail e) := by rw [hm, hpl]
        have B := qe e (by rw [hm2])
        exact pr_asgE (er_if (b := false) (et_is (eqd 7 _ _ _ _) rfl) (fun h => Bool.noConfusion h) fun _ => er_pl (ev_var rfl) hx2 e2 hpl B)
      | ok ds =>
        have hm2 : playRes W p r (args.getD 2 .nothing) = (R7239g.Spec.putServer W p ⟨ds⟩, .ret .undef) := by rw [hm, hpl]
        rw [hm2] at qo
        refine pr_setG (P := fun v G => ∃ b lb, v = .ref b ∧ SrvAt K G b lb r ds ∧ (Good r ds ∧ ds ≠ [] ∧ ds.length ≤ 301) ∧ H b = none ∧ H lb = none) (l := sl) (xs := ss) (j := p) (eg_if (b := false) (et_is (eqd 7 _ _ _ _) rfl) (fun h => Bool.noConfusion h) fun _ => eg_pl (ev_var rfl) hx2 e2 hpl) (ev_fld (v := .ref sl) (ev_var rfl) h1 T.c_Desk T.n_Desk_servers rfl) (ev_var rfl) h3 (by omega) (fun v G G' eG z => by obtain ⟨b, lb, z1, z2, z3⟩ := z; exact ⟨b, lb, z1, z2.mono eG, z3⟩) fun v G eG hv => ?_
        · obtain ⟨b, lb, rfl, hs, hg, nb, nlb⟩ := hv
          have hN := DeskAt.server (c := ⟨ds⟩) hp (DeskT.mono eG hT) hs hg (fun z => by rw [z, h2] at nlb; cases nlb) (fun z => by rw [z, h3] at nlb; cases nlb) fun i k hk => sll i k lb hk nlb
          refine pr_noth (Dom.refl _) fun v H' e hv => qo _ rfl v H' (lb :: M) (hN.mono e) (fun b o hb nb => e _ _ ?_) (.cons nlb ((hMA.ex eG).upd.ex e) (up_ne hs.ne e)) (hv.mono nw_ex)
          rw [upd_ne (fun z => nb (by rw [z]; exact h6))]
          exact eG _ _ hb
    | step p k g1 g2 hp h0 hk =>
      have hl0 : 1 ≤ args.length ∧ sizeS (wordD door) ≤ args.length - 1 ∧ wordS (wordD door) ∧ atI [V.str "ask", V.str "scan", V.str "type", V.str "collect", V.str "leave", V.str "tick"] ((door : Int) - 9) = some (V.str (Str.ofString (wordD door))) := by
        rw [hlen]
        have : door = 9 ∨ door = 10 ∨ door = 11 ∨ door = 12 ∨ door = 13 ∨ door = 14 := by omega
        unfold wordS
        rcases this with rfl | rfl | rfl | rfl | rfl | rfl <;> exact ⟨by decide, by decide, by decide, rfl⟩
      obtain ⟨hl1, hsz, hwd, hat⟩ := hl0
      refine pr_when (F := H) (b := false) (et_is (eqd 0 _ _ _ _) (decide_eq_false (by omega))) (fun h => Bool.noConfusion h) (fun _ => ?_) H (Ex.refl H)
      refine pr_when (b := false) (et_is (led 6 _ _ _ _) (decide_eq_false (by omega))) (fun h => Bool.noConfusion h) fun _ => ?_
      refine pr_when (b := false) (et_is (led 8 _ _ _ _) (decide_eq_false (by omega))) (fun h => Bool.noConfusion h) fun _ => ?_
      obtain ⟨hp4, b, r, hb, hs, hg, hne, hlk⟩ := slot p k hk
      refine pr_asg (ev_sin hp (ev_var rfl) (arg 0 p _ H (Ex.refl H) (by omega) h0 rfl) h1 h3 hb) ?_
      refine pr_when (b := true) (et_is (led 14 _ _ _ _) (decide_eq_true (by omega))) (fun _ => ?_) (fun h => Bool.noConfusion h)
      have hca : courseAt W p = k := by unfold courseAt; rw [hk]; rfl
      obtain ⟨sts⟩ := k
      cases sts with
      | nil => exact absurd rfl hne
      | cons d ds =>
        have hres : courseStep W p (fun n => stepF (wordD door) n (args.drop 1)) = match stepF (wordD door) d (args.drop 1) with | .error e => (W, .fail e) | .ok e => if 300 < (d :: ds).length then (W, .fail (rangeErrorWith "there are 300 steps already")) else (R7239g.Spec.putServer W p ⟨happen d e :: d :: ds⟩, .ret (stepAnswer d e)) := by
          unfold courseStep
          rw [hca]
          rfl
        obtain ⟨gr, gw, gl, gg⟩ := id hg
        obtain ⟨sdx, sra, svs, s1, s2, s3, s4⟩ := id hs
        refine pr_meth2 (ev_var rfl) s1 rfl (ev_op ev_c (ev_is (ev_int (g := fun i j => .int (i - j)) (i := (door : Int)) (j := 9) (ev_var rfl) ev_c) rfl) (rv_ixT (He.tupB_ok T.tups.2.2.1 _) hat)) (sli _ H (Ex.refl H) rfl) fun al2 G eG hal2 => ?_
        refine ⟨b, L p, al2, r, d, ds, us.drop 1, args.drop 1, wordD door, rfl, hwd, hs.mono eG, gr, gw, (by have : ds.length + 1 ≤ 301 := hlk; show ds.length + 1 ≤ 1000; omega), hal2, hvd.mono eG, by omega, fun e he => ?_, fun ev he h3 => ?_, fun ev he h3 v H' bt hs2 hv => ?_⟩
        · exact (qe e (by rw [hres, he])).mono eG
        · have r3 : courseStep W p (fun n => stepF (wordD door) n (args.drop 1)) = (W, .fail e300) := by rw [hres, he]; exact if_pos h3
          exact (qe e300 (by rw [r3])).mono eG
        · have hr2 : courseStep W p (fun n => stepF (wordD door) n (args.drop 1)) = (R7239g.Spec.putServer W p ⟨happen d ev :: d :: ds⟩, .ret (stepAnswer d ev)) := by rw [hres, he]; exact if_neg (Nat.not_lt.mpr h3)
          rw [hr2] at qo
          have hN := DeskAt.course (c := ⟨happen d ev :: d :: ds⟩) hp hk hb (DeskT.mono eG hT) ⟨_, eG _ _ s3⟩ bt hs2 ⟨hg.step (by have : ds.length + 1 ≤ 301 := hlk; omega) he, by simp, by show ds.length + 1 + 1 ≤ 301; have : ds.length + 1 ≤ 300 := h3; omega⟩
          refine qo _ rfl v H' M hN (fun c o hc nc => bt.at (fun z => nc (by rw [z]; exact (h9 p _ hk).1)) (eG _ _ hc)) (.same ((hMA.ex eG).bt bt hs2.ne)) (hv.mono nw_ex)
    | undo p k hp h0 hk =>
      have hlen2 : args.length = 1 := hlen
      refine pr_when (F := H) (b := false) (et_is (eqd 0 _ _ _ _) rfl) (fun h => Bool.noConfusion h) (fun _ => ?_) H (Ex.refl H)
      refine pr_when (b := false) (et_is (led 6 _ _ _ _) rfl) (fun h => Bool.noConfusion h) fun _ => ?_
      refine pr_when (b := false) (et_is (led 8 _ _ _ _) rfl) (fun h => Bool.noConfusion h) fun _ => ?_
      obtain ⟨hp4, b, r, hb, hs, hg, hne, hlk⟩ := slot p k hk
      refine pr_asg (ev_sin hp (ev_var rfl) (arg 0 p _ H (Ex.refl H) (by omega) h0 rfl) h1 h3 hb) ?_
      refine pr_when (b := false) (et_is (led 14 _ _ _ _) rfl) (fun h => Bool.noConfusion h) fun _ => ?_
      have hca : courseAt W p = k := by unfold courseAt; rw [hk]; rfl
      obtain ⟨sts⟩ := k
      cases sts with
      | nil => exact absurd rfl hne
      | cons d ds =>
        obtain ⟨gr, gw, gl, gg⟩ := id hg
        obtain ⟨sdx, sra, svs, s1, s2, s3, s4⟩ := id hs
        refine pr_call3 (ev_var rfl) (ev_var rfl) (sli _ H (Ex.refl H) rfl) fun al2 G eG hal2 => ?_
        refine ⟨15, b, L p, al2, r, d, ds, us.drop 1, args.drop 1, rfl, by decide, by decide, hs.mono eG, gr, gw, hal2, hvd.mono eG, (fun h => absurd h (by decide)), fun _ => ⟨fun hd v H' bt hs2 hv => ?_, fun hd => ?_⟩, (fun h => absurd h (by decide))⟩
        · obtain ⟨d2, ds2, rfl⟩ : ∃ d2 ds2, ds = d2 :: ds2 := by
            cases ds with
            | nil => exact absurd rfl hd
            | cons d2 ds2 => exact ⟨d2, ds2, rfl⟩
          have hr2 : undoStep W p = (R7239g.Spec.putServer W p ⟨d2 :: ds2⟩, .ret .undef) := by unfold undoStep; rw [hca]
          rw [hr2] at qo
          have hN := DeskAt.course (c := ⟨d2 :: ds2⟩) hp hk hb (DeskT.mono eG hT) ⟨_, eG _ _ s3⟩ bt hs2 ⟨gg, by simp, by simp only [List.length_cons] at hlk ⊢; omega⟩
          exact qo _ rfl v H' M hN (fun c o hc nc => bt.at (fun z => nc (by rw [z]; exact (h9 p _ hk).1)) (eG _ _ hc)) (.same ((hMA.ex eG).bt bt hs2.ne)) (hv.mono nw_ex)
        · have hr2 : undoStep W p = (W, .fail (rangeErrorWith "nothing to undo")) := by unfold undoStep; rw [hca, hd]
          exact (qe _ (by rw [hr2])).mono eG
    | state p k g1 g2 hp h0 hk =>
      have hl0 : 1 ≤ args.length ∧ (17 ≤ door → 2 ≤ args.length) := by
        rw [hlen]
        have : door = 16 ∨ door = 17 ∨ door = 18 ∨ door = 19 := by omega
        rcases this with rfl | rfl | rfl | rfl <;> exact ⟨by decide, by decide⟩
      refine pr_when (F := H) (b := false) (et_is (eqd 0 _ _ _ _) (decide_eq_false (by omega))) (fun h => Bool.noConfusion h) (fun _ => ?_) H (Ex.refl H)
      refine pr_when (b := false) (et_is (led 6 _ _ _ _) (decide_eq_false (by omega))) (fun h => Bool.noConfusion h) fun _ => ?_
      refine pr_when (b := false) (et_is (led 8 _ _ _ _) (decide_eq_false (by omega))) (fun h => Bool.noConfusion h) fun _ => ?_
      obtain ⟨hp4, b, r, hb, hs, hg, hne, hlk⟩ := slot p k hk
      refine pr_asg (ev_sin hp (ev_var rfl) (arg 0 p _ H (Ex.refl H) (by omega) h0 rfl) h1 h3 hb) ?_
      refine pr_when (b := false) (et_is (led 14 _ _ _ _) (decide_eq_false (by omega))) (fun h => Bool.noConfusion h) fun _ => ?_
      obtain ⟨sts⟩ := k
      cases sts with
      | nil => exact absurd rfl hne
      | cons d ds =>
        obtain ⟨gr, gw, gl, gg⟩ := id hg
        refine pr_call3 (ev_var rfl) (ev_var rfl) (sli _ H (Ex.refl H) rfl) fun al2 G eG hal2 => ?_
        exact ⟨door, b, L p, al2, r, d, ds, us.drop 1, args.drop 1, rfl, by omega, g2, hs.mono eG, gr, gw, hal2, hvd.mono eG, fun h => (by have := hl0.2 h; omega), (fun h => absurd h (by omega)), fun _ => ⟨fun e he => (qe e (ans_er he)).mono eG, fun q hq v H' e hv => qo q (ans_ok hq) v H' M (hD.mono (eG.trans e)) (fun b o hb _ => (eG.trans e) _ _ hb) (.same (hMA.ex (eG.trans e))) hv⟩⟩
end
end Sl
/-! ## SlAns0 -/
namespace Sl
open R7239g.Spec (Err Res Plain Ans Course Call newDesk andThen numberIn placeArg natOrNull historyPlain rulesPlain deskPlain signInResult answer record text nat eventPlain markPlain loginPlain sessionPlain makeRules courseStep undoStep requireRules)
/-! ### answers are plain; a refused call changes nothing -/
theorem plain_recE : ∀ fs : List (String × Plain), (∀ f ∈ fs, isPlain (us f.1) = true ∧ plainV (gv f.2) = true) → plainEs (Rust.givenFields (fs.map fun f => (R7239g.Spec.units f.1, f.2))) = true
  | [], _ => rfl
  | f :: r, h => by
    obtain ⟨h1, h2⟩ := h f List.mem_cons_self
    show (isPlain (us f.1) && (plainV (gv f.2) && plainEs (Rust.givenFields (r.map _)))) = true
    rw [h1, h2, plain_recE r fun g hg => h g (List.mem_cons_of_mem _ hg)]
    rfl
theorem plain_rec {fs : List (String × Plain)} (h : ∀ f ∈ fs, isPlain (us f.1) = true ∧ plainV (gv f.2) = true) : plainV (gv (record fs)) = true := plain_recE fs h
theorem plain_arrE : ∀ l : List Plain, (∀ x ∈ l, plainV (gv x) = true) → plainVs (Rust.givenAll l) = true
  | [], _ => rfl
  | x :: r, h => by
    show (plainV (gv x) && plainVs (Rust.givenAll r)) = true
    rw [h x List.mem_cons_self, plain_arrE r fun g hg => h g (List.mem_cons_of_mem _ hg)]
    rfl
theorem plain_arr {l : List Plain} (h : ∀ x ∈ l, plainV (gv x) = true) : plainV (gv (.arr l)) = true := plain_arrE l h
theorem plain_nat {n : Nat} : plainV (gv (nat n)) = true := rfl
theorem plain_non {o : Option Nat} : plainV (gv (natOrNull o)) = true := by cases o <;> rfl
theorem plain_ev (e : R7239g.Spec.Event) : plainV (gv (eventPlain e)) = true := by
  cases e <;> (refine plain_arr fun x hx => ?_) <;> simp only [List.mem_cons, List.not_mem_nil, or_false] at hx
  · rcases hx with rfl | rfl
    · decide +kernel
    · rfl
  · rcases hx with rfl | rfl | rfl
    · decide +kernel
    · rfl
    · rfl
  · rcases hx with rfl | rfl | rfl
    · decide +kernel
    · rfl
    · rfl
  · rcases hx with rfl | rfl | rfl
    · decide +kernel
    · rfl
    · rfl
  · rcases hx with rfl | rfl
    · decide +kernel
    · rfl
  · rcases hx with rfl | rfl
    · decide +kernel
    · rfl
theorem plain_hist (h : Option (List R7239g.Spec.Event)) : plainV (gv (historyPlain h)) = true := by
  cases h with
  | none => rfl
  | some l => exact plain_arr fun x hx => by obtain ⟨e, _, rfl⟩ := List.mem_map.mp hx; exact plain_ev e
theorem plain_rules (r : SR) : plainV (gv (rulesPlain r)) = true := by
  refine plain_rec fun f hf => ?_
  simp only [List.mem_cons, List.not_mem_nil, or_false] at hf
  rcases hf with rfl | rfl | rfl | rfl | rfl | rfl | rfl | rfl | rfl | rfl <;> exact ⟨by dsimp only; decide +kernel, by first | rfl | exact plain_non⟩
theorem plain_mark (m : Option SMk) : plainV (gv (markPlain m)) = true := by
  cases m with
  | none => rfl
  | some m =>
    refine plain_rec fun f hf => ?_
    simp only [List.mem_cons, List.not_mem_nil, or_false] at hf
    rcases hf with rfl | rfl <;> exact ⟨by dsimp only; decide +kernel, rfl⟩
theorem plain_sess (m : Option SSs) : plainV (gv (sessionPlain m)) = true := by
  cases m with
  | none => rfl
  | some m =>
    refine plain_rec fun f hf => ?_
    simp only [List.mem_cons, List.not_mem_nil, or_false] at hf
    rcases hf with rfl | rfl <;> exact ⟨by dsimp only; decide +kernel, rfl⟩
theorem plain_login (x : SLg) : plainV (gv (loginPlain x)) = true := by
  refine plain_rec fun f hf => ?_
  simp only [List.mem_cons, List.not_mem_nil, or_false] at hf
  rcases hf with rfl | rfl | rfl | rfl | rfl <;> exact ⟨by dsimp only; decide +kernel, by first | rfl | exact plain_mark _⟩
theorem plain_desk (d : SD) : plainV (gv (deskPlain d)) = true := by
  refine plain_rec fun f hf => ?_
  simp only [List.mem_cons, List.not_mem_nil, or_false] at hf
  rcases hf with rfl | rfl | rfl
  · exact ⟨by dsimp only; decide +kernel, rfl⟩
  · exact ⟨by dsimp only; decide +kernel, plain_arr fun x hx => by obtain ⟨e, _, rfl⟩ := List.mem_map.mp hx; exact plain_login e⟩
  · exact ⟨by dsimp only; decide +kernel, plain_arr fun x hx => by obtain ⟨e, _, rfl⟩ := List.mem_map.mp hx; exact plain_sess e⟩
theorem plain_nats (l : List Nat) : plainV (gv (.arr (l.map nat))) = true := plain_arr fun x hx => by obtain ⟨e, _, rfl⟩ := List.mem_map.mp hx; rfl
theorem ansOf_ret {x : Res Plain} {p : Plain} (h : ansOf x = .ret p) : x = .ok p := by
  cases x with
  | error e => cases h
  | ok q => injection h with h; rw [← h]; rfl
theorem plain_ar {door : Nat} {r : SR} {l : List Val} {p : Plain} (h : arRes door r l = .ok p) : plainV (gv p) = true := by
  unfold arRes at h
  split at h
  · injection h with h; subst h; exact plain_rules r
  split at h
  · injection h with h; subst h; exact plain_hist _
  split at h
  · injection h with h; subst h; exact plain_non
  split at h
  · injection h with h; subst h; exact plain_hist _
  split at h
  · injection h with h; subst h; exact plain_non
  · unfold signInResult at h
    obtain ⟨_, _, h⟩ := then_ok h
    obtain ⟨_, _, h⟩ := then_ok h
    obtain ⟨_, _, h⟩ := then_ok h
    injection h with h; subst h; exact plain_hist _
theorem plain_as {door : Nat} {d : SD} {l : List Val} {p : Plain} (h : asRes door d l = .ok p) : plainV (gv p) = true := by
  unfold asRes at h
  split at h
  · injection h with h; subst h; exact plain_desk d
  split at h
  · obtain ⟨_, _, h⟩ := then_ok h
    injection h with h; subst h; exact plain_non
  split at h
  · obtain ⟨_, _, h⟩ := then_ok h
    injection h with h; subst h; exact plain_nats _
  · obtain ⟨_, _, h⟩ := then_ok h
    injection h with h; subst h; exact plain_nats _
theorem call_ret {W : SW} {door : Nat} {args : List Val} {res : SW × Ans} {p : Plain} (h : CallIs W door args res) (hp : res.2 = .ret p) : plainV (gv p) = true := by
  cases h with
  | rules q hq h0 =>
    unfold makeRules at hp
    split at hp
    · cases hp
    · injection hp with hp; subst hp; rfl
  | about q r h1 h2 hq h0 hr => exact plain_ar (ansOf_ret hp)
  | new p q r => injection hp with hp; subst hp; rfl
  | play p q r =>
    unfold playRes at hp
    split at hp
    · cases hp
    · injection hp with hp; subst hp; rfl
  | step p k =>
    unfold courseStep at hp
    split at hp
    · cases hp
    · split at hp
      · cases hp
      · injection hp with hp; subst hp
        rename_i e _ _
        cases e <;> rfl
  | undo p k =>
    unfold undoStep at hp
    split at hp
    · injection hp with hp; subst hp; rfl
    · cases hp
  | state p k => exact plain_as (ansOf_ret hp)
theorem call_fail {W : SW} {door : Nat} {args : List Val} {res : SW × Ans} {e : Err} (h : CallIs W door args res) (hp : res.2 = .fail e) : res.1 = W := by
  cases h with
  | rules q hq h0 =>
    unfold makeRules at hp ⊢
    split at hp
    · rfl
    · cases hp
  | about q r h1 h2 hq h0 hr => rfl
  | new p q r => cases hp
  | play p q r =>
    unfold playRes at hp ⊢
    split at hp
    · rfl
    · cases hp
  | step p k =>
    unfold courseStep at hp ⊢
    split at hp
    · rfl
    · split at hp
      · rename_i c; rw [if_pos c]
      · cases hp
  | undo p k =>
    unfold undoStep at hp ⊢
    split at hp
    · cases hp
    · rfl
  | state p k => rfl
end Sl
/-! ## SlAns -/
namespace Sl
open PySem PySem.Spec PyProof.Rows L2 Evl
open R7239g.Spec (Err Res Plain Ans Course Call)
theorem passAtR {X : Cx} {W : WX} (tk : Xr.Takes X W) (σ : L2.St) : PassesAt (Xr.CX X.prog X.w) X σ (WE W σ) := fun _ _ _ e s' I c => tk e s' (Xr.XE.of_call I (fun _ _ _ h => h) c)
abbrev tLen (K : PySem.W.Frag) (te : TE) : TE := tCB (fun xs H Q => ∃ x n, xs = [x] ∧ LenV K x H n ∧ Q (.int n) H) (tCons te tNil)
def tbAns (K : PySem.W.Frag) : WX → TS := fun W =>
  tSeq (tAsg (tCall (spReq K) [] E0 (tCons (tVar 1) tNil)) (gTup K 2 (gCons (gName 2) (gCons (gName 3) gNil))))
    (tSeq (tIfS (tOr (tB (tOp (rI0 fun i j => .bl (decide (j ≤ i))) (tVar 2) (tLen K (tC (.ref (He.ga K "MANY")))))) (tB (tOp (rI0 fun i j => .bl (decide (j < i))) (tLen K (tVar 3)) (tOp (rIxT K) (tC (.ref (He.ga K "MANY"))) (tVar 2))))) tNever tNext)
    (tSeq (tAsg (tOp rCat (tVar 3) (tLc (iRng1 (tCons (tOp (rI0 fun i j => .int (i - j)) (tOp (rIxT K) (tC (.ref (He.ga K "MANY"))) (tVar 2)) (tLen K (tVar 3))) tNil)) (gName 5) tYes (tNew0 (He.ga K "Nothing")) [5])) (gName 3))
    (tRet (tOp rCat (tLst (tCons (tC (.int 0)) tNil)) (tCall (spOct K) [] E0 (tCons (tMethT (He.ga K "Desk") "call" (spDC K) (WE W) (tVar 0) (tCons (tVar 2) (tCons (tVar 3) tNil))) tNil))))))
def tsAns (K : PySem.W.Frag) : List (Addr × Obj) → TS := fun pn => tRet (tCall (spRO K pn) [] E0 (tCons (tVar 4) tNil))
def spAn (K : PySem.W.Frag) : Sp := fun vs H Q _ => ∃ (a b : Addr) (l : List UInt8) (W : SW) (M : List Addr) (c : Call), vs = [.ref a, .ref b] ∧ DeskAt K H a W M ∧ MA M H ∧ H b = some (.lst (bytesV l)) ∧ l.length ≤ 100000 ∧ Rust.asked l = some c ∧ Rust.canBe W c = true ∧ (Rust.step W l).2.length ≤ 65536 ∧
  ∀ p H' M', DeskAt K H' a (Rust.step W l).1 M' → Kp M H H' → Nx M M' H H' → H p = none → H' p = some (.lst (bytesV (Rust.step W l).2)) → p ∉ M' → Q (.ref p) H'
theorem s_retOp {σ : L2.St} {H : Hp} {ta tb : TE} {r : R2} {D : Ends} (h : ta σ H fun x H1 => tb σ H1 fun y H2 => r x y H2 D.rt) : tRet (tOp r ta tb) D σ H := h
theorem t_callM {σ : L2.St} {H : Hp} {sp sp2 : Sp} {E : XK} {E2 : L2.St → XK} {C : Addr} {m : Str} {to : TE} {ta : TA} {Q : VK} (h : tMethT C m sp2 E2 to ta σ H fun v H1 => sp [v] H1 Q E) : tCall sp [] E (tCons (tMethT C m sp2 E2 to ta) tNil) σ H Q := h
theorem many_at {d : Nat} (h : d < 20) : (manyL.map fun (n : Nat) => V.int (n : Int))[d]? = some (.int ((manyL.getD d 0 : Nat) : Int)) := by
  rw [List.getElem?_map, List.getD_eq_getElem?_getD, List.getElem?_eq_getElem (show d < manyL.length from h)]
  rfl
theorem rep_nothing {K : PySem.W.Frag} {H : Hp} : ∀ (n : Nat) {items ys : List V}, items.length = n → All2 (fun _ y => ValAt K H y .nothing) items ys → ValsAt K H ys (List.replicate n .nothing)
  | 0, [], _, _, h => by cases h; unfold ValsAt; rfl
  | n + 1, x :: r, _, hl, h => by
    cases h with
    | cons h1 h2 =>
      rw [List.replicate_succ]
      unfold ValsAt
      exact ⟨_, _, rfl, h1, rep_nothing n (by rw [List.length_cons] at hl; omega) h2⟩
theorem kinds_good {l : List Val} (h : Rust.ofKinds l = true) : ∀ y ∈ l, good y = true := by
  refine good_list (l := l) ?_
  have h2 : ((false || RWire.noBigMany l) && (false || RWire.noOctetsMany l) && (false || RWire.noWideMany l)) = true := h
  simp only [Bool.false_or, Bool.and_eq_true] at h2
  obtain ⟨⟨a, b⟩, c⟩ := h2
  show (RWire.noBigMany l && (RWire.noOctetsMany l && RWire.noWideMany l)) = true
  rw [a, b, c]; rfl
local macro_rules
  | `(tactic| walk_at "ev") => `(tactic| first
    | exact ev_c
    | exact ev_var rfl
    | ((with_reducible refine' ev_fld ?k1 ?k2 ?k3 ?k4 ?k5); (case k1 => walk_at "ev"); (case k2 => assumption); (case k3 => exact Tx.cl (by assumption) rfl); (case k4 => exact Tx.na (by assumption) rfl); (case k5 => rfl))
    | (refine' ev_st ?k1 ?k2 ?k3; (case k1 => walk_at "ev"); (case k2 => assumption); (case k3 => assumption))
    | ((with_reducible refine' ev_ixT ?k1 ?k2 ?k3 ?k4); (case k1 => walk_at "ev"); (case k2 => walk_at "ev"); (case k3 => assumption); (case k4 => first | assumption | rfl))
    | (refine' ev_isN ?k1; (case k1 => walk_at "ev"))
    | (refine' ev_notN ?k1; (case k1 => walk_at "ev"))
    | (refine' ev_int ?k1 ?k2; (case k1 => walk_at "ev"); (case k2 => walk_at "ev"))
    | ((with_reducible refine' ev_sc ?k1 ?k2 ?k3); (case k1 => walk_at "ev"); (case k2 => walk_at "ev"); (case k3 => rfl))
    | ((with_reducible refine' ev_scn ?k1 ?k2 ?k3); (case k1 => walk_at "ev"); (case k2 => walk_at "ev"); (case k3 => rfl))
    | ((with_reducible refine' ev_notV ?k1); (case k1 => walk_at "ev"))
    | ((with_reducible refine' ev_andV ?k1 ?k2); (case k1 => walk_at "ev"); (case k2 => intro _; walk_at "ev"))
    | ((with_reducible refine' ev_orV ?k1 ?k2); (case k1 => walk_at "ev"); (case k2 => intro _; walk_at "ev"))
    | ((with_reducible refine' et_test ?k1); (case k1 => walk_at "ev"))
    | ((with_reducible refine' et_B ?k1); (case k1 => walk_at "ev"))
    | ((with_reducible refine' et_and ?k1 ?k2); (case k1 => walk_at "ev"); (case k2 => intro _; walk_at "ev"))
    | ((with_reducible refine' et_or ?k1 ?k2); (case k1 => walk_at "ev"); (case k2 => intro _; walk_at "ev"))
    | ((with_reducible refine' et_not ?k1); (case k1 => walk_at "ev"))
    | exact ea_nil
    | ((with_reducible refine' ea_cons ?k1 ?k2); (case k1 => walk_at "ev"); (case k2 => walk_at "ev")))
section
variable {P : Program} {w : World} {K : PySem.W.Frag} {mg : Str → Option Value} {base : Heap}
theorem sc_answer : FnScope ["desk", "octets", "door", "arguments", "e", "k"] ["desk", "octets"] d_answer.scope := ⟨rfl, rfl, rfl, by decide +kernel, rfl, by decide +kernel, by decide +kernel⟩
theorem ok_answer (T : Tx w K mg) : FnOk P w K mg base CX0 11 (He.ga K "answer") (fdOf K (He.ga K "answer")) ["desk", "octets"] (spAn K) := by
  refine mkOk T.F_answer ⟨rfl, rfl⟩ sc_answer (fun vs H Q E h => ?_) (fun cdv A outer s H vs Q E hr h => ⟨_, (pss_one (Xr.ps_try_asW (i := 4) (tb := tbAns K) (ts := tsAns K) rfl rfl sc_answer.nd rfl rfl ⟨rfl, by decide, Or.inl T.g_Refused⟩
      (fun W pn xe tk po => (pss_cons (ps_asg (pe_call (ok_read_request T) (hr.mono (by decide)) rfl T.g_read_request T.kp_read_request T.B_read_request .nil pass0 (pa_cons (pv 1) pa_nil)) (pg_tup rfl (pgs_cons (pg_name (i := 2) sc_answer.nd rfl (Or.inl rfl)) (pgs_cons (pg_name (i := 3) sc_answer.nd rfl (Or.inl rfl)) pgs_nil)))) (pss_cons (ps_if (PW.pt (pw_or (pt_cmpR op_ge (pv 2) (pe_callB call_len (by rfl) T.f_len (by decide +kernel) (pa_cons (pe_glob (v := .ref (He.ga K "MANY")) rfl T.g_MANY rfl) pa_nil)) (nomark _)) (pw_or1 (pt_cmpR op_gt (pe_callB call_len (by rfl) T.f_len (by decide +kernel) (pa_cons (pv 3) pa_nil)) (pe_ix ix_tup (pe_glob (v := .ref (He.ga K "MANY")) rfl T.g_MANY rfl) (pv 2) (fun _ _ => rfl)) (nomark _))))) (pss_one ps_never) pss_nil) (pss_cons (ps_set (i := 3) sc_answer.nd rfl (Or.inl rfl) (pe_op op_cat (pv 3) (pe_lc (own := [("k", 5)]) (g := gName 5) (tt := tYes) (by rfl) sc_answer.nd (pi_range1 (by rfl) T.f_range (pa_cons (pe_op op_sub (pe_ix ix_tup (pe_glob (v := .ref (He.ga K "MANY")) rfl T.g_MANY rfl) (pv 2) (fun _ _ => rfl)) (pe_callB call_len (by rfl) T.f_len (by decide +kernel) (pa_cons (pv 3) pa_nil))) pa_nil)) (blkOk_by (own := [("k", 5)]) (N := ["desk", "octets", "door", "arguments", "e", "k"]) (sc := d_answer.scope) (by decide +kernel)) (fun _ _ _ _ _ => pg_name (i := 5) sc_answer.nd rfl (Or.inl rfl)) (fun _ _ _ _ _ => pts_nil) (fun _ _ _ _ _ => (pe_new0 T.noth.1 T.noth.2 (Tx.kp_Nothing T) rfl T.g_Nothing))))) (pss_one (ps_ret (pe_op op_cat (pe_lst (pa_cons pe_int pa_nil)) (pe_call (ok_octets_of T) (hr.mono (by decide)) rfl T.g_octets_of T.kp_octets_of T.B_octets_of .nil pass0 (pa_cons (pe_methT (pv 0) T.c_Desk T.m_Desk_call (ok_Desk_call T) (hr.mono (by decide)) T.B_Desk_call (fun σ => passAtR tk σ) (pa_cons (pv 2) (pa_cons (pv 3) pa_nil))) pa_nil)))))))))
      (fun a pn hot => (pss_one (ps_ret (pe_callW (hk_refusal_octets T) (L2H.roomH_mark (hr.mono (by decide)) _) hot rfl T.g_refusal_octets T.kp_refusal_octets T.B_refusal_octets pass0 (pa_cons (pv 4) pa_nil))))))), ?_⟩)
  · (repeat (first | exact congrArg List.length h.1 | obtain ⟨_, h⟩ := h))
  · obtain ⟨a, b, l, W, M, c, rfl, hD, hMA, hb, hl, hask, hcan, hout, q⟩ := h
    have hstep : Rust.step W l = ((R7239g.Spec.step W c).1, RWire.writeAnswer (Rust.answerOf (R7239g.Spec.step W c).2)) := by unfold Rust.step; rw [hask]; dsimp only; rw [if_pos hcan]
    rw [hstep] at q hout
    obtain ⟨d, ls, hreq, hkinds, hcall⟩ : ∃ d ls, RWire.readRequest l = some (d, ls) ∧ Rust.ofKinds ls = true ∧ Rust.callOf d (Rust.takenAll ls) = some c := by
      unfold Rust.asked at hask
      split at hask
      · rename_i d ls e
        split at hask
        · rename_i hk; exact ⟨d, ls, e, hk, hask⟩
        · cases hask
      · cases hask
    have hw : R7239g.Spec.within W c = true := and1 hcan
    have hC := call_is hcall hw
    have hd := door_lt hcall
    have hmany := many_le hcall
    have hm4 : manyL.getD d 0 ≤ 4 := by
      have : d = 0 ∨ d = 1 ∨ d = 2 ∨ d = 3 ∨ d = 4 ∨ d = 5 ∨ d = 6 ∨ d = 7 ∨ d = 8 ∨ d = 9 ∨ d = 10 ∨ d = 11 ∨ d = 12 ∨ d = 13 ∨ d = 14 ∨ d = 15 ∨ d = 16 ∨ d = 17 ∨ d = 18 ∨ d = 19 := by omega
      rcases this with rfl | rfl | rfl | rfl | rfl | rfl | rfl | rfl | rfl | rfl | rfl | rfl | rfl | rfl | rfl | rfl | rfl | rfl | rfl | rfl <;> decide
    have hM := He.tupB_ok T.tups.2.2.2.1 H
    have hMl : ∀ G, Ex H G → SqT K G (He.ga K "MANY") (manyL.map fun (n : Nat) => V.int (n : Int)) := fun G eG => ex_t eG hM
    show tbAns K _ _ _ _
    refine (ev_var (v := .ref b) rfl) H (Ex.refl H) _ fun H0 x0 => ⟨b, l, d, ls, rfl, x0 _ _ hb, hl, hreq, kinds_good hkinds, by omega, fun tp al us H1 x1 htp hal nal ntp hne hvs => ?_⟩
    have y1 := x0.trans x1
    refine ⟨tp, _, rfl, st_of htp, rfl, _, _, rfl, _, _, rfl, rfl, ?_⟩
    have hvs1 : ValsAt K H1 us ls := hvs.mono nw_ex
    have len := hvs1.len
    have lenE : ∀ (σ : L2.St) (G : Hp), Ex H1 G → σ[3]? = some (some (.ref al)) → Ev (tLen K (tVar 3)) σ G (.int (ls.length : Int)) := fun σ G eG hσ => ev_is (ev_len2 (ev_var hσ) (sq_of (eG _ _ hal))) (by rw [len])
    have ixE : ∀ (σ : L2.St) (G : Hp), Ex H1 G → σ[2]? = some (some (.int (d : Int))) → Ev (tOp (rIxT K) (tC (.ref (He.ga K "MANY"))) (tVar 2)) σ G (.int ((manyL.getD d 0 : Nat) : Int)) := fun σ G eG hσ => ev_op ev_c (ev_var hσ) (rv_ixT (hMl G (y1.trans eG)) (atI_nat (many_at hd)))
    refine pr_when (F := H1) (b := false) (et_or (a := false) (b := false) (et_is (et_B (ev_int (g := fun i j => .bl (decide (j ≤ i))) (i := (d : Int)) (j := (20 : Int)) (ev_var rfl) (ev_is (ev_len2T ev_c (hMl H1 y1)) rfl))) (decide_eq_false (by omega))) fun _ => et_is (et_B (ev_int (g := fun i j => .bl (decide (j < i))) (i := (ls.length : Int)) (j := ((manyL.getD d 0 : Nat) : Int)) (lenE _ _ (Ex.refl _) rfl) (ixE _ _ (Ex.refl _) rfl))) (decide_eq_false (by omega))) (fun h => Bool.noConfusion h) (fun _ => ?_) H1 (Ex.refl H1)
    have hn : (((manyL.getD d 0 : Nat) : Int) - (ls.length : Int)) = ((manyL.getD d 0 - ls.length : Nat) : Int) := by omega
    refine pr_asgG (P := fun v G => ValAt K G v (.list (padA d ls))) ?_ fun v H2 x2 hv2 => ?_
    · refine gv_cat (l := ls) (m := List.replicate (manyL.getD d 0 - ls.length) .nothing) (gv_varE rfl (by unfold ValAt; exact ⟨al, us, rfl, hal, hvs1⟩)) ?_ (by rw [List.length_replicate]; omega)
      refine EgN.eg ?_ (moVal _)
      refine (fun G eG Q k => egn_lcR (P := fun _ v G => ValAt K G v .nothing) (n := manyL.getD d 0 - ls.length) (fun x => moVal _) (ea_cons (ev_is (ev_int (g := fun i j => .int (i - j)) (ixE _ _ (Ex.refl _) rfl) (lenE _ _ (Ex.refl _) rfl)) (by rw [hn])) ea_nil) (by omega) (fun x => rfl) (fun i G2 hi e2 G3 e3 Q3 q3 => ?_) G eG Q fun v G2 e2 p => k v G2 e2 ?_)
      · intro x dx hx hdx ne
        refine q3 (.ref x) _ ((Ex.new hdx).trans (Ex.new (by rw [upd_ne (Ne.symm ne)]; exact hx))) ?_
        unfold ValAt
        exact ⟨x, dx, rfl, by rw [nw_at hx]; exact upd_same⟩
      · obtain ⟨pp, ys, rfl, hp, al2⟩ := p
        unfold ValAt
        exact ⟨pp, ys, rfl, hp, rep_nothing _ (by rw [rngI_len]) al2⟩
    unfold ValAt at hv2
    obtain ⟨al2, us2, rfl, hal2, hvs2⟩ := hv2
    have y2 := y1.trans x2
    intro H3 x3
    have y3 := y2.trans x3
    -- [0] + octets_of(desk.call(door, arguments))
    refine s_retOp ((el_lst (ea_cons ev_c ea_nil) (by show 1 ≤ 100000; decide)) H3 (Ex.refl H3) _ fun z H4 nz x4 hz => t_callM ?_)
    have y4 := y3.trans x4
    obtain ⟨dx, rl, sl, rs, ss, L, hT⟩ := id hD
    refine (ev_var (v := .ref a) rfl) H4 (Ex.refl H4) _ fun H5 x5 => ⟨a, dx, _, rfl, (y4.trans x5) _ _ hT.1, rfl, ?_⟩
    refine (ev_var (v := .int (d : Int)) rfl) H5 (Ex.refl H5) _ fun H6 x6 => ?_
    refine (ev_var (v := .ref al2) rfl) H6 (Ex.refl H6) _ fun H7 x7 => ?_
    have y57 := x5.trans (x6.trans x7)
    have y7 := y4.trans y57
    have hzH : H z = none := fresh_back y3 nz
    refine ⟨a, d, al2, us2, padA d ls, W, M, R7239g.Spec.step W c, rfl, hD.mono y7, hMA.ex y7, (x4.trans y57) _ _ (x3 _ _ hal2), hvs2.mono (x3.trans (x4.trans y57)), ?_, hC, fun e he d' H' x' hE => ?_, fun p hp v H8 M' hD8 hK hM8 hv8 => ?_⟩
    · unfold padA
      rw [List.length_append, List.length_replicate]
      omega
    · have hW := call_fail hC he
      rw [he, hW] at q
      rw [he] at hout
      refine ⟨T.refm.exm, fun ea oe pn hm hc2 hd2 hf2 => ?_⟩
      have y8 := y7.trans x'
      refine (ev_var (v := .ref ea) rfl) H' (Ex.refl H') _ fun H9 x9 => ?_
      have hE9 : ErrAt H9 d' e := ⟨x9 _ _ hE.1, hE.2⟩
      have hsz : (errMsg e).length ≤ 5000000 := by
        have h2 : (RWire.writeAnswer (Rust.answerOf (.fail e))).length = 2 + (4 + (errMsg e).length) := by
          show (1 :: UInt8.ofNat (Rust.classOf e.cls) :: (RWire.low 4 (errMsg e).length ++ errMsg e)).length = _
          rw [List.length_cons, List.length_cons, List.length_append, low_map, List.length_map, List.length_range]
          omega
        dsimp only at hout
        omega
      refine ⟨ea, oe, d', e, rfl, hm, hc2, hd2, hf2, hE9, hsz, fun p H10 np x10 hp => ?_⟩
      have y10 := y8.trans (x9.trans x10)
      refine q p H10 M (hD.mono y10) (fun b o hb _ => y10 _ _ hb) (.same (hMA.ex y10)) (fresh_back (y8.trans x9) np) hp fun hpM => ?_
      exact hMA.ex (y8.trans x9) p hpM np
    · rw [hp] at q hout
      have hz7 : H7 z = some (.lst [.int 0]) := y57 _ _ hz
      have nzM : z ∉ M := fun m => hMA z m hzH
      have hz8 := hK _ _ hz7 nzM
      refine ⟨v, gv p, rfl, hv8, call_ret hC hp, ?_, fun o H9 no x9 ho => ?_⟩
      · have h2 : (RWire.writeAnswer (Rust.answerOf (.ret p))).length = 1 + (RWire.write (gv p)).length := by
          show (0 :: RWire.write (gv p)).length = _
          rw [List.length_cons]; omega
        dsimp only at hout
        omega
      · refine ⟨z, o, [.int 0], bytesV (RWire.write (gv p)), rfl, rfl, x9 _ _ hz8, ho, ?_, fun u hu => ?_⟩
        · refine sz10 ?_
          rw [bytesV_len]
          have h2 : (RWire.writeAnswer (Rust.answerOf (.ret p))).length = 1 + (RWire.write (gv p)).length := by
            show (0 :: RWire.write (gv p)).length = _
            rw [List.length_cons]; omega
          dsimp only at hout
          show 1 + _ ≤ _
          omega
        · have e8 : bytesV (RWire.writeAnswer (Rust.answerOf (.ret p))) = [.int 0] ++ bytesV (RWire.write (gv p)) := rfl
          have nuM : u ∉ M' := fun m => hM8.2.2 u m (fresh_back x9 hu)
          refine q u _ M' (hD8.mono (x9.trans (Ex.new hu))) (fun b o hb nb => (x9.trans (Ex.new hu)) _ _ (hK _ _ (y7 _ _ hb) nb)) ⟨fun m hm => (hM8.1 m hm).imp id (fresh_back y7), hM8.2.1, hM8.2.2.ex (x9.trans (Ex.new hu))⟩ ?_ (by rw [e8]; exact upd_same) nuM
          cases hHu : H u with
          | none => rfl
          | some o =>
            have z1 := (x9 _ _ (hK _ _ (y7 _ _ hHu) fun m => nuM (hM8.2.1 u m)))
            rw [hu] at z1
            cases z1
end
end Sl
/-! ## SlLaw -/
namespace Sl
open PySem PySem.Spec L2
/-! ### the request as calls, the answer as rows -/
def flat (xs : List (List Int)) : List Int := xs.flatMap fun x => 0 :: (x.length : Int) :: x
def outs : SW → List (List Int) → List Int
  | _, [] => []
  | W, x :: r => (((Rust.step W (Zn70Neutral.bytesOf x)).2.length : Int) :: Zn70Neutral.numbersOf (Rust.step W (Zn70Neutral.bytesOf x)).2) ++ outs (Rust.step W (Zn70Neutral.bytesOf x)).1 r
theorem flat_cons {x : List Int} {r : List (List Int)} : flat (x :: r) = 0 :: (x.length : Int) :: (x ++ flat r) := by
  unfold flat
  rw [List.flatMap_cons]
  rfl
theorem flat_app {x y : List (List Int)} : flat (x ++ y) = flat x ++ flat y := by unfold flat; rw [List.flatMap_append]
theorem calls_rows : ∀ (f : Nat) (l : List Int) (cs : List (List (List Int))), PyFlat.calls PyZn70.shape f l = some cs → ∃ xs : List (List Int), cs = xs.map (fun x => [[0], x]) ∧ l = flat xs
  | 0, [], cs, h => by
    have h : some [] = some cs := h
    injection h with h
    exact ⟨[], h.symm, rfl⟩
  | 0, p :: r, cs, h => by cases h
  | f + 1, [], cs, h => by
    have h : some [] = some cs := h
    injection h with h
    exact ⟨[], h.symm, rfl⟩
  | f + 1, p :: r, cs, h => by
    have h : (match PyFlat.call PyZn70.shape (p :: r) with | none => none | some (c, t) => match PyFlat.calls PyZn70.shape f t with | none => none | some cs => some (c :: cs)) = some cs := h
    have hc : PyFlat.call PyZn70.shape (p :: r) = (match PyZn70.shape p with | none => none | some (n, k) => if r.length < n then none else match PyFlat.rows k (r.drop n) with | none => none | some (xs, t) => some ((p :: r.take n) :: xs, t)) := rfl
    by_cases hp : p = 0
    · have hs : PyZn70.shape p = some (0, 1) := if_pos hp
      rw [hs] at hc
      have hc : PyFlat.call PyZn70.shape (p :: r) = (match PyFlat.rows 1 r with | none => none | some (xs, t) => some ([p] :: xs, t)) := hc
      cases r with
      | nil =>
        have : PyFlat.rows 1 [] = none := rfl
        rw [this] at hc
        rw [hc] at h
        cases h
      | cons n r2 =>
        by_cases hn : 0 ≤ n ∧ n.toNat ≤ r2.length
        · have hr : PyFlat.rows 1 (n :: r2) = some ([r2.take n.toNat], r2.drop n.toNat) := by
            show (match PyFlat.row (n :: r2) with | none => none | some (x, s) => match PyFlat.rows 0 s with | none => none | some (xs, t) => some (x :: xs, t)) = _
            have : PyFlat.row (n :: r2) = some (r2.take n.toNat, r2.drop n.toNat) := if_pos hn
            rw [this]
            rfl
          rw [hr] at hc
          rw [hc] at h
          dsimp only at h
          cases hcs : PyFlat.calls PyZn70.shape f (r2.drop n.toNat) with
          | none => rw [hcs] at h; cases h
          | some cs2 =>
            rw [hcs] at h
            injection h with h
            obtain ⟨xs, e1, e2⟩ := calls_rows f _ cs2 hcs
            have hl : (r2.take n.toNat).length = n.toNat := by rw [List.length_take]; omega
            refine ⟨r2.take n.toNat :: xs, by rw [← h, e1, hp]; rfl, ?_⟩
            rw [flat_cons, ← e2, List.take_append_drop, hl, hp]
            congr 2
            omega
        · have hr : PyFlat.rows 1 (n :: r2) = none := by
            show (match PyFlat.row (n :: r2) with | none => none | some (x, s) => match PyFlat.rows 0 s with | none => none | some (xs, t) => some (x :: xs, t)) = _
            have : PyFlat.row (n :: r2) = none := if_neg hn
            rw [this]
          rw [hr] at hc
          rw [hc] at h
          cases h
    · have hs : PyZn70.shape p = none := if_neg hp
      rw [hs] at hc
      rw [hc] at h
      cases h
theorem outs_told : ∀ (xs : List (List Int)) (W : SW), PyFlat.told (PyFlat.played (fun s c => Zn70Neutral.step s (c.headD [])) W (xs.map fun x => [x])) = outs W xs
  | [], _ => rfl
  | x :: r, W => by
    show PyFlat.told ((Zn70Neutral.step W x).2 :: PyFlat.played (fun s c => Zn70Neutral.step s (c.headD [])) (Zn70Neutral.step W x).1 (r.map fun x => [x])) = _
    unfold PyFlat.told
    rw [List.flatMap_cons]
    have ih := outs_told r (Zn70Neutral.step W x).1
    unfold PyFlat.told at ih
    rw [ih]
    show ((Zn70Neutral.numbersOf (Rust.step W (Zn70Neutral.bytesOf x)).2).length : Int) :: _ ++ outs _ r = _
    unfold Zn70Neutral.numbersOf
    rw [List.length_map]
    rfl
theorem whole_map (xs : List (List Int)) : (xs.map fun x => [[0], x]).map PyZn70.whole = xs.map fun x => [x] := by
  rw [List.map_map]
  rfl
theorem asked_is {l : List Int} (h : PyZn70.answers_asked l = true) : ∃ xs : List (List Int), l = flat xs ∧ (∀ x ∈ xs, NeutralIO.bytes x = true) ∧ (∀ x ∈ xs, x.length ≤ 60000) ∧ Rust.goes R7239g.Spec.World.start 4000000 (xs.map Zn70Neutral.bytesOf) = true ∧ PyZn70.answers l = outs R7239g.Spec.World.start xs ∧ (outs R7239g.Spec.World.start xs).length ≤ 10000000 := by
  unfold PyZn70.answers_asked at h
  cases hc : PyZn70.calls l with
  | none => rw [hc] at h; cases h
  | some cs =>
    rw [hc] at h
    dsimp only at h
    have hans : PyZn70.answers l = PyFlat.told (PyFlat.played (fun s c => Zn70Neutral.step s (c.headD [])) Zn70Neutral.start cs) := by unfold PyZn70.answers; rw [hc]
    unfold PyZn70.calls at hc
    cases hf : PyFlat.calls PyZn70.shape l.length l with
    | none => rw [hf] at hc; cases hc
    | some cs2 =>
      rw [hf] at hc
      injection hc with hc
      obtain ⟨xs, e1, e2⟩ := calls_rows _ _ _ hf
      rw [e1, whole_map] at hc
      subst hc
      have h3 : PyZn70.answers l = outs R7239g.Spec.World.start xs := hans.trans (outs_told xs _)
      have hh : ((xs.map fun x => [x]).map fun c => c.headD []) = xs := by
        rw [List.map_map]
        exact List.map_id _
      rw [hh] at h
      simp only [Bool.and_eq_true] at h
      obtain ⟨⟨_, ha⟩, hs⟩ := h
      unfold Zn70Neutral.asked at ha
      obtain ⟨h4, h5⟩ := Bool.and_eq_true_iff.mp ha
      have h6 := (Bool.and_eq_true_iff.mp h5).2
      unfold Rust.fits at h6
      simp only [Bool.and_eq_true] at h6
      obtain ⟨⟨⟨_, h7⟩, _⟩, h8⟩ := h6
      refine ⟨xs, e2, fun x hx => List.all_eq_true.mp h4 x hx, fun x hx => ?_, h8, h3, ?_⟩
      · have z := List.all_eq_true.mp h7 (Zn70Neutral.bytesOf x) (List.mem_map.mpr ⟨x, hx, rfl⟩)
        have z := Nat.le_of_ble_eq_true z
        unfold Zn70Neutral.bytesOf at z
        rw [List.length_map] at z
        exact z
      · rw [← h3]
        exact of_decide_eq_true hs
theorem bytes_map : ∀ {x : List Int}, NeutralIO.bytes x = true → x.map V.int = bytesV (Zn70Neutral.bytesOf x)
  | [], _ => rfl
  | n :: r, h => by
    have h2 : ((decide (0 ≤ n) && decide (n ≤ 255)) && NeutralIO.bytes r) = true := h
    simp only [Bool.and_eq_true, decide_eq_true_eq] at h2
    show V.int n :: r.map V.int = V.int (((UInt8.ofNat n.toNat).toNat : Nat) : Int) :: bytesV (Zn70Neutral.bytesOf r)
    rw [bytes_map h2.2, UInt8.toNat_ofNat', Nat.mod_eq_of_lt (by omega)]
    congr 2
    omega
theorem nums_map (l : List UInt8) : (Zn70Neutral.numbersOf l).map V.int = bytesV l := by
  unfold Zn70Neutral.numbersOf bytesV
  rw [List.map_map]
  rfl
theorem goes_is {W : SW} {left : Nat} {b : List UInt8} {r : List (List UInt8)} (h : Rust.goes W left (b :: r) = true) : ∃ c, Rust.asked b = some c ∧ Rust.canBe W c = true ∧ (Rust.step W b).2.length ≤ 65536 ∧ ∃ left', Rust.goes (Rust.step W b).1 left' r = true := by
  have h : (match Rust.asked b with | none => false | some c => Rust.canBe W c && Rust.tellable (R7239g.Spec.step W c).2 && Nat.ble (Rust.step W b).2.length Rust.A && Nat.ble (Rust.step W b).2.length left && Rust.goes (R7239g.Spec.step W c).1 (left - (Rust.step W b).2.length) r) = true := h
  cases hb : Rust.asked b with
  | none => rw [hb] at h; cases h
  | some c =>
    rw [hb] at h
    simp only [Bool.and_eq_true] at h
    obtain ⟨⟨⟨⟨h1, _⟩, h3⟩, _⟩, h5⟩ := h
    have e : (Rust.step W b).1 = (R7239g.Spec.step W c).1 := by unfold Rust.step; rw [hb]; dsimp only; rw [if_pos h1]
    exact ⟨c, rfl, h1, Nat.le_of_ble_eq_true h3, left - (Rust.step W b).2.length, by rw [e]; exact h5⟩
end Sl
/-! ## SlAll -/
namespace Sl
open PySem PySem.Spec PyProof.Rows L2 Evl
def spAs (K : PySem.W.Frag) : Sp := fun vs H Q _ => ∃ (cl : Addr) (ns : List Int), vs = [.ref cl] ∧ SqL K H cl (ns.map V.int) ∧ PyZn70.answers_asked ns = true ∧ ns.length ≤ 61000 ∧ ∀ (H' : Hp) (p : Addr), H' p = some (.lst ((PyZn70.answers ns).map V.int)) → Q (.ref p) H'
theorem DeskAt.bt {K : PySem.W.Frag} {H H' : Hp} {a l : Addr} {W : SW} {M : List Addr} {vs : List V} (h : H l = some (.lst vs)) (nl : l ∉ M) (e : Bt l H H') (hD : DeskAt K H a W M) : DeskAt K H' a W M := by
  obtain ⟨dx, rl, sl, rs, ss, L, h1, h2, h3, h4, h5, h6, h7, h8, h9⟩ := hD
  have im := Im.bt h e
  refine ⟨dx, rl, sl, rs, ss, L, e.at (fun z => by rw [z, h] at h1; cases h1) h1, e.at (fun z => nl (by rw [← z]; exact h5.1)) h2, e.at (fun z => nl (by rw [← z]; exact h5.2)) h3, h4, h5, h6, fun i v hi => (h7 i v hi).mono im, fun i v hi => (h8 i v hi).bt h e fun hn z => ?_, h9⟩
  cases hk : W.servers.getD i none with
  | none => exact absurd hk hn
  | some k => exact nl (by rw [← z]; exact (h9 i k hk).1)
theorem rep_non {i : Nat} {v : V} (h : (List.replicate 4 V.non)[i]? = some v) : v = .non := by
  rw [List.getElem?_replicate] at h
  split at h
  · injection h with h; exact h.symm
  · cases h
theorem rep_none {α : Type} {i : Nat} : (List.replicate 4 (none : Option α)).getD i none = none := by
  rw [List.getD_eq_getElem?_getD, List.getElem?_replicate]
  split <;> rfl
theorem DeskAt.new {K : PySem.W.Frag} {H : Hp} {a dx rl sl : Addr} (h1 : H a = some (.ins (He.ga K "Desk") dx (dkF rl sl))) (h2 : H rl = some (.lst (List.replicate 4 .non))) (h3 : H sl = some (.lst (List.replicate 4 .non))) (ne : rl ≠ sl) : DeskAt K H a R7239g.Spec.World.start [rl, sl] := by
  refine ⟨dx, rl, sl, _, _, fun _ => rl, h1, h2, h3, ne, ⟨List.mem_cons_self, List.mem_cons_of_mem _ List.mem_cons_self⟩, ⟨rfl, rfl, rfl, rfl⟩, fun i v hi => ?_, fun i v hi => ?_, fun i k hk => ?_⟩
  · rw [show (R7239g.Spec.World.start.rules.getD i none) = none from rep_none]
    exact rep_non hi
  · rw [show (R7239g.Spec.World.start.servers.getD i none) = none from rep_none]
    exact rep_non hi
  · rw [show (R7239g.Spec.World.start.servers.getD i none) = none from rep_none] at hk
    cases hk
theorem eg_desk {K : PySem.W.Frag} {σ : L2.St} {F : Hp} {E : XK} : Eg (tMake (He.ga K "Desk") (spDI K) [] E tNil) σ F fun v H => ∃ a M, v = .ref a ∧ DeskAt K H a R7239g.Spec.World.start M ∧ MA M H ∧ ∀ m ∈ M, F m = none := fun H1 e Q q x dx nx nd ne => by
  have hx : Ex H1 (upd (upd H1 dx (.own x)) x (.ins (He.ga K "Desk") dx [])) := (Ex.new nd).trans (Ex.new (by rw [upd_ne (Ne.symm ne)]; exact nx))
  refine ⟨x, dx, rfl, upd_same, fun rl sl H' h1 n1 n2 hn h3 h4 k => ⟨rfl, ?_⟩⟩
  have e3 : Ex H1 H' := fun b o hb => Same.made nx nd k b o hb
  have f1 := fresh_back (e.trans hx) n1
  have f2 := fresh_back (e.trans hx) n2
  refine q (.ref x) H' e3 ⟨x, [rl, sl], rfl, DeskAt.new h1 h3 h4 hn, fun m hm => ?_, fun m hm => ?_⟩
  · rcases List.mem_cons.mp hm with rfl | hm
    · rw [h3]; simp
    · rcases List.mem_cons.mp hm with rfl | hm
      · rw [h4]; simp
      · cases hm
  · rcases List.mem_cons.mp hm with rfl | hm
    · exact f1
    · rcases List.mem_cons.mp hm with rfl | hm
      · exact f2
      · cases hm
theorem atI_mid {xs : List Int} {i : Nat} {n : Int} (h : xs[i]? = some n) : atI (xs.map V.int) (i : Int) = some (V.int n) := atI_nat (by rw [List.getElem?_map, h]; rfl)
/-- the parts of the list that a turn reads -/
theorem flat_at {done rest : List (List Int)} {x : List Int} : (flat (done ++ x :: rest))[(flat done).length + 1]? = some (x.length : Int) ∧ ((flat (done ++ x :: rest)).drop ((flat done).length + 2)).take x.length = x ∧ (flat (done ++ [x])).length = (flat done).length + 2 + x.length ∧ (flat done).length + 2 + x.length ≤ (flat (done ++ x :: rest)).length := by
  have e1 : flat (done ++ x :: rest) = flat done ++ (0 :: (x.length : Int) :: (x ++ flat rest)) := by rw [flat_app, flat_cons]
  have e2 : (flat (done ++ [x])).length = (flat done).length + 2 + x.length := by
    rw [flat_app, List.length_append, show flat [x] = 0 :: (x.length : Int) :: (x ++ flat []) from flat_cons]
    show _ + ((x ++ []).length + 1 + 1) = _
    rw [List.append_nil]
    omega
  refine ⟨?_, ?_, e2, ?_⟩
  · rw [e1, List.getElem?_append_right (by omega), Nat.add_sub_cancel_left]
    rfl
  · rw [e1, List.drop_append, List.drop_eq_nil_of_le (by omega), Nat.add_sub_cancel_left, List.nil_append]
    show (x ++ flat rest).take x.length = x
    rw [List.take_left]
  · rw [e1, List.length_append]
    simp only [List.length_cons, List.length_append]
    omega
theorem cut_nat {xs : List V} {a b : Nat} (h : b ≤ xs.length) : cutV xs (some (a : Int)) (some (b : Int)) = (xs.drop a).take (b - a) := by
  unfold cutV
  rw [HT.sIx_nat, HT.sIx_nat, Nat.min_eq_left h]
  by_cases c : a ≤ xs.length
  · rw [Nat.min_eq_left c]
  · rw [Nat.min_eq_right (by omega), List.drop_eq_nil_of_le (Nat.le_refl _), List.drop_eq_nil_of_le (by omega), List.take_nil, List.take_nil]
theorem s_par3 {σ : L2.St} {H : Hp} {t1 t2 t3 : TE} {i j l : Nat} {tz : TS} {D : Ends} (h : t1 σ H fun u H1 => t2 σ H1 fun v H2 => t3 σ H2 fun w H3 => ∃ u' v' w' : V, [u, v, w] = [u', v', w'] ∧ tz D (((σ.set i (some u')).set j (some v')).set l (some w')) H3) : tSeq (tPar3 i j l (tCons t1 (tCons t2 (tCons t3 tNil)))) tz D σ H := h
theorem s_asgCall2 {σ : L2.St} {H : Hp} {t1 t2 : TE} {sp : Sp} {E : XK} {i : Nat} {tz : TS} {D : Ends} (h : t1 σ H fun u H1 => t2 σ H1 fun v H2 => sp [u, v] H2 (fun r H3 => tz D (σ.set i (some r)) H3) E) : tSeq (tAsg (tCall sp [] E (tCons t1 (tCons t2 tNil))) (gName i)) tz D σ H := h
theorem s_app2 {σ : L2.St} {H : Hp} {K : PySem.W.Frag} {i : Nat} {te : TE} {tz : TS} {D : Ends} {l : Addr} {xs : List V} (hi : σ[i]? = some (some (.ref l))) (hl : H l = some (.lst xs)) (h : te σ H fun v H2 => ∃ l' xs' y, V.ref l = .ref l' ∧ [v] = [y] ∧ H2 l' = some (.lst xs') ∧ xs'.length < sizeLine ∧ tz D σ (upd H2 l' (.lst (xs' ++ [y])))) : tSeq (tDrop (tBM K "list" rAppend (tVar i) (tCons te tNil))) tz D σ H := ⟨_, hi, Or.inl ⟨rfl, _, sq_of hl⟩, h⟩
theorem s_ext2 {σ : L2.St} {H : Hp} {K : PySem.W.Frag} {i : Nat} {te : TE} {tz : TS} {D : Ends} {l : Addr} {xs : List V} (hi : σ[i]? = some (some (.ref l))) (hl : H l = some (.lst xs)) (h : te σ H fun v H2 => ∃ l' b xs' zs, V.ref l = .ref l' ∧ [v] = [.ref b] ∧ H2 l' = some (.lst xs') ∧ H2 b = some (.lst zs) ∧ xs'.length + zs.length ≤ sizeLine ∧ tz D σ (upd H2 l' (.lst (xs' ++ zs)))) : tSeq (tDrop (tBM K "list" rExtend (tVar i) (tCons te tNil))) tz D σ H := ⟨_, hi, Or.inl ⟨rfl, _, sq_of hl⟩, h⟩
local macro_rules
  | `(tactic| walk_at "ev") => `(tactic| first
    | exact ev_c
    | exact ev_var rfl
    | ((with_reducible refine' ev_fld ?k1 ?k2 ?k3 ?k4 ?k5); (case k1 => walk_at "ev"); (case k2 => assumption); (case k3 => exact Tx.cl (by assumption) rfl); (case k4 => exact Tx.na (by assumption) rfl); (case k5 => rfl))
    | (refine' ev_st ?k1 ?k2 ?k3; (case k1 => walk_at "ev"); (case k2 => assumption); (case k3 => assumption))
    | ((with_reducible refine' ev_ixT ?k1 ?k2 ?k3 ?k4); (case k1 => walk_at "ev"); (case k2 => walk_at "ev"); (case k3 => assumption); (case k4 => first | assumption | rfl))
    | (refine' ev_isN ?k1; (case k1 => walk_at "ev"))
    | (refine' ev_notN ?k1; (case k1 => walk_at "ev"))
    | (refine' ev_int ?k1 ?k2; (case k1 => walk_at "ev"); (case k2 => walk_at "ev"))
    | ((with_reducible refine' ev_sc ?k1 ?k2 ?k3); (case k1 => walk_at "ev"); (case k2 => walk_at "ev"); (case k3 => rfl))
    | ((with_reducible refine' ev_scn ?k1 ?k2 ?k3); (case k1 => walk_at "ev"); (case k2 => walk_at "ev"); (case k3 => rfl))
    | ((with_reducible refine' ev_notV ?k1); (case k1 => walk_at "ev"))
    | ((with_reducible refine' ev_andV ?k1 ?k2); (case k1 => walk_at "ev"); (case k2 => intro _; walk_at "ev"))
    | ((with_reducible refine' ev_orV ?k1 ?k2); (case k1 => walk_at "ev"); (case k2 => intro _; walk_at "ev"))
    | ((with_reducible refine' et_test ?k1); (case k1 => walk_at "ev"))
    | ((with_reducible refine' et_B ?k1); (case k1 => walk_at "ev"))
    | ((with_reducible refine' et_and ?k1 ?k2); (case k1 => walk_at "ev"); (case k2 => intro _; walk_at "ev"))
    | ((with_reducible refine' et_or ?k1 ?k2); (case k1 => walk_at "ev"); (case k2 => intro _; walk_at "ev"))
    | ((with_reducible refine' et_not ?k1); (case k1 => walk_at "ev"))
    | exact ea_nil
    | ((with_reducible refine' ea_cons ?k1 ?k2); (case k1 => walk_at "ev"); (case k2 => walk_at "ev")))
section
variable {P : Program} {w : World} {K : PySem.W.Frag} {mg : Str → Option Value} {base : Heap}
theorem sc_answers : FnScope ["calls", "desk", "at", "found", "end", "row"] ["calls"] d_answers.scope := ⟨rfl, rfl, rfl, by decide +kernel, rfl, by decide +kernel, by decide +kernel⟩
theorem ok_answers (T : Tx w K mg) : FnOk P w K mg base CX0 12 (He.ga K "answers") (fdOf K (He.ga K "answers")) ["calls"] (spAs K) := by
  refine mkOk T.F_answers ⟨rfl, rfl⟩ sc_answers (fun vs H Q E h => ?_) (fun cdv A outer s H vs Q E hr h => ⟨_, (pss_cons (ps_par3 (i := 1) (j := 2) (l := 3) rfl sc_answers.nd rfl rfl rfl (by decide) (by decide) (by decide) rfl rfl rfl (pa_cons (pe_make0 T.k_Desk (ok_Desk_init T) (hr.mono (by decide)) rfl T.g_Desk T.B_Desk_init .nil pass0) (pa_cons pe_int (pa_cons (pe_lst pa_nil) pa_nil))) (by rfl)) (pss_cons (ps_while PassesOwn.never (pt_cmpR op_lt (pv 2) (pe_callB call_len (by rfl) T.f_len (by decide +kernel) (pa_cons (pv 0) pa_nil)) (nomark _)) (pss_cons (ps_set (i := 4) sc_answers.nd rfl (Or.inl rfl) (pe_op op_add (pe_op op_add (pv 2) pe_int) (pe_ix ix_list (pv 0) (pe_op op_add (pv 2) pe_int) (fun _ _ => rfl)))) (pss_cons (ps_set (i := 5) sc_answers.nd rfl (Or.inl rfl) (pe_call (ok_answer T) (hr.mono (by decide)) rfl T.g_answer T.kp_answer T.B_answer .nil pass0 (pa_cons (pv 1) (pa_cons (pe_slice sl_list (pv 0) (po_some (pe_op op_add (pv 2) pe_int)) (po_some (pv 4))) pa_nil)))) (pss_cons (ps_expr (pe_bm PySem.F.plainAttrs_list PySem.F.slot_list_append PySem.F.type_list_append mt_append (pv 3) (pa_cons (pe_callB call_len (by rfl) T.f_len (by decide +kernel) (pa_cons (pv 5) pa_nil)) pa_nil))) (pss_cons (ps_expr (pe_bm PySem.F.plainAttrs_list PySem.F.slot_list_extend PySem.F.type_list_extend mt_extend (pv 3) (pa_cons (pv 5) pa_nil))) (pss_one (ps_set (i := 2) sc_answers.nd rfl (Or.inl rfl) (pv 4)))))))) (pss_one (ps_ret (pv 3))))), ?_⟩)
  · (repeat (first | exact congrArg List.length h.1 | obtain ⟨_, h⟩ := h))
  · obtain ⟨cl, ns, rfl, hcl, hask, hlen, q⟩ := h
    obtain ⟨xs, hns, hby, hsz, hgo, hans, hout⟩ := asked_is hask
    rw [hans] at q
    have hsl : ∀ G, Ex H G → SqL K G cl (ns.map V.int) := fun G eG => ex_l eG hcl
    refine s_par3 (eg_desk H (Ex.refl H) _ fun v H1 x1 hp => ?_)
    obtain ⟨a, M0, rfl, hD0, hA0, hM0⟩ := hp
    refine (ev_c (v := .int 0)) H1 (Ex.refl H1) _ fun H2 x2 => ?_
    refine (el_lst ea_nil (by show 0 ≤ 100000; decide)) H2 (Ex.refl H2) _ fun fo H3 nfo x3 hfo => ⟨_, _, _, rfl, ?_⟩
    have y3 := (x1.trans x2).trans x3
    have hfoM : fo ∉ M0 := fun m => (hA0.ex x2) fo m nfo
    refine s_while (D := _) (fun m σ' H' => ∃ (done rest : List (List Int)) (W : SW) (M : List Addr) (acc : List Int) (left : Nat) (x4 x5 : Option V), xs = done ++ rest ∧ m = rest.length ∧ σ' = [some (.ref cl), some (.ref a), some (.int ((flat done).length : Nat)), some (.ref fo), x4, x5] ∧ Ex H H' ∧ DeskAt K H' a W M ∧ MA M H' ∧ (∀ m ∈ M, H m = none) ∧ fo ∉ M ∧ H fo = none ∧ H' fo = some (.lst (acc.map V.int)) ∧ outs R7239g.Spec.World.start xs = acc ++ outs W rest ∧ Rust.goes W left (rest.map Zn70Neutral.bytesOf) = true) xs.length
      ⟨[], xs, _, M0, [], 4000000, _, _, rfl, rfl, rfl, y3, hD0.mono (x2.trans x3), hA0.ex (x2.trans x3), hM0, hfoM, fresh_back (x1.trans x2) nfo, hfo, rfl, hgo⟩ fun m σ' H' hw => ?_
    obtain ⟨done, rest, W, M, acc, left, x4, x5, hxs, rfl, rfl, xH, hD, hMA, hMn, hfM, hfn, hf, ho, hg⟩ := hw
    have hnl : ns = flat (done ++ rest) := by rw [hns, hxs]
    refine ⟨decide ((flat done).length < ns.length), et_is (et_test (ev_int (g := fun i j => .bl (decide (i < j))) (i := ((flat done).length : Int)) (j := (ns.length : Int)) (ev_var rfl) (ev_is (ev_len2 (ev_var rfl) (hsl _ xH)) (by rw [List.length_map])))) (decide_eq_decide.mpr (by omega)), fun hb Ha xa => ?_, fun hb Ha xa => ?_⟩
    · have hlt := of_decide_eq_true hb
      cases rest with
      | nil => rw [hnl, List.append_nil] at hlt; exact absurd hlt (Nat.lt_irrefl _)
      | cons x rest =>
        obtain ⟨f1, f2, f3, f4⟩ := flat_at (done := done) (rest := rest) (x := x)
        rw [← hnl] at f1 f2 f4
        have hxm : x ∈ xs := by rw [hxs]; simp
        have hbx := bytes_map (hby x hxm)
        obtain ⟨c, hask1, hcan, hA, left', hg'⟩ := goes_is hg
        refine ⟨fun σ2 H2 => ∃ (done' : List (List Int)) (W : SW) (M : List Addr) (acc : List Int) (left : Nat) (x4 x5 : Option V), xs = done' ++ rest ∧ σ2 = [some (.ref cl), some (.ref a), some (.int ((flat done').length : Nat)), some (.ref fo), x4, x5] ∧ Ex H H2 ∧ DeskAt K H2 a W M ∧ MA M H2 ∧ (∀ m ∈ M, H m = none) ∧ fo ∉ M ∧ H fo = none ∧ H2 fo = some (.lst (acc.map V.int)) ∧ outs R7239g.Spec.World.start xs = acc ++ outs W rest ∧ Rust.goes W left (rest.map Zn70Neutral.bytesOf) = true,
          fun σ2 H2 ⟨done', W', M', acc', left', x4', x5', z1, z2, z3⟩ => ⟨rest.length, by rw [List.length_cons]; omega, done', rest, W', M', acc', left', x4', x5', z1, rfl, z2, z3⟩, ?_⟩
        have xHa := xH.trans xa
        have at2 : ∀ (σ : L2.St) (G : Hp), σ[2]? = some (some (.int ((flat done).length : Int))) → Ev (tOp (rI0 fun i j => .int (i + j)) (tVar 2) (tC (.int (2 : Nat)))) σ G (.int (((flat done).length + 2 : Nat) : Int)) := fun σ G hσ => ev_addN (a := (flat done).length) (b := 2) (ev_var hσ) ev_c
        refine q_asg (H := Ha) (v := .int (((flat done).length + 2 + x.length : Nat) : Int)) (ev_addN (a := (flat done).length + 2) (b := x.length) (at2 _ _ rfl) (ev_op (ev_var rfl) (ev_addN (a := (flat done).length) (b := 1) (ev_var rfl) ev_c) (rv_ixL (hsl _ xHa) (atI_mid f1)))) fun Hb xb => ?_
        have xHb := xHa.trans xb
        -- the row
        have hcut : cutV (ns.map V.int) (some (((flat done).length + 2 : Nat) : Int)) (some (((flat done).length + 2 + x.length : Nat) : Int)) = bytesV (Zn70Neutral.bytesOf x) := by
          rw [cut_nat (by rw [List.length_map]; exact f4), ← hbx, show (flat done).length + 2 + x.length - ((flat done).length + 2) = x.length by omega, ← List.map_drop, ← List.map_take, f2]
        refine s_asgCall2 ((ev_var (v := .ref a) rfl) Hb (Ex.refl Hb) _ fun Hc xc => ?_)
        refine (el_sl (K := K) (te := tVar 0) (ev_var rfl) (eo_some (at2 _ _ rfl)) (eo_some (ev_var rfl)) (hsl _ (xHb.trans xc))) Hc (Ex.refl Hc) _ fun b Hd nb xd hb2 => ?_
        rw [hcut] at hb2
        have xHd := (xHb.trans xc).trans xd
        have xad := (xa.trans xb).trans (xc.trans xd)
        have hbl : (Zn70Neutral.bytesOf x).length ≤ 60000 := by unfold Zn70Neutral.bytesOf; rw [List.length_map]; exact hsz x hxm
        refine ⟨a, b, Zn70Neutral.bytesOf x, W, M, c, rfl, hD.mono xad, hMA.ex xad, hb2, by omega, hask1, hcan, hA, fun p He M' hDe hKe hNe np hpe npM => ?_⟩
        have hfe := hKe _ _ (xad _ _ hf) hfM
        have xHe : Ex H He := fun c o hc => hKe c o (xHd c o hc) fun m => by rw [hMn c m] at hc; cases hc
        have hMn' : ∀ m ∈ M', H m = none := fun m hm => (hNe.1 m hm).elim (hMn m) (fresh_back xHd)
        have hfM' : fo ∉ M' := fun m => (hNe.1 fo m).elim hfM fun z => by rw [xad _ _ hf] at z; cases z
        have npf : p ≠ fo := fun z => by rw [z, xad _ _ hf] at np; cases np
        have hlo : acc.length + (1 + (Rust.step W (Zn70Neutral.bytesOf x)).2.length) ≤ 10000000 := by
          have z := hout
          rw [ho] at z
          show _ ≤ _
          have z2 : outs W (x :: rest) = (((Rust.step W (Zn70Neutral.bytesOf x)).2.length : Int) :: Zn70Neutral.numbersOf (Rust.step W (Zn70Neutral.bytesOf x)).2) ++ outs (Rust.step W (Zn70Neutral.bytesOf x)).1 rest := rfl
          rw [z2, List.length_append, List.length_append, List.length_cons] at z
          unfold Zn70Neutral.numbersOf at z
          rw [List.length_map] at z
          omega
        -- found.append(len(row))
        refine s_app2 (l := fo) rfl hfe ?_
        refine (ev_is (w := .int ((Rust.step W (Zn70Neutral.bytesOf x)).2.length : Int)) (ev_len2 (ev_var rfl) (sq_of hpe)) (by rw [bytesV_len])) He (Ex.refl He) _ fun Hf xf => ⟨fo, acc.map V.int, _, rfl, rfl, xf _ _ hfe, Nat.lt_of_lt_of_le (by rw [List.length_map]; omega) (by decide : 10000000 ≤ sizeLine), ?_⟩
        have hfo' := xf _ _ hfe
        have bt1 : Bt fo Hf (upd Hf fo (.lst (acc.map V.int ++ [V.int ((Rust.step W (Zn70Neutral.bytesOf x)).2.length : Int)]))) := (Bt.of (Ex.refl Hf)).upd
        have hDf := (hDe.mono xf).bt hfo' hfM' bt1
        have hAf : MA M' (upd Hf fo (.lst (acc.map V.int ++ [V.int ((Rust.step W (Zn70Neutral.bytesOf x)).2.length : Int)]))) := (hNe.2.2.ex xf).upd
        have hpf := bt1.at npf (xf _ _ hpe)
        have xHf : Ex H (upd Hf fo (.lst (acc.map V.int ++ [V.int ((Rust.step W (Zn70Neutral.bytesOf x)).2.length : Int)]))) := Ex.mut (xHe.trans xf) hfn
        have hff : upd Hf fo (.lst (acc.map V.int ++ [V.int ((Rust.step W (Zn70Neutral.bytesOf x)).2.length : Int)])) fo = some (.lst (acc.map V.int ++ [V.int ((Rust.step W (Zn70Neutral.bytesOf x)).2.length : Int)])) := upd_same
        generalize upd Hf fo (.lst (acc.map V.int ++ [V.int ((Rust.step W (Zn70Neutral.bytesOf x)).2.length : Int)])) = Hg at hDf hAf hpf xHf hff bt1
        -- found.extend(row)
        refine s_ext2 (l := fo) rfl hff ?_
        refine (ev_var (v := .ref p) rfl) Hg (Ex.refl Hg) _ fun Hh xh => ⟨fo, p, _, bytesV (Rust.step W (Zn70Neutral.bytesOf x)).2, rfl, rfl, xh _ _ hff, xh _ _ hpf, ?_, ?_⟩
        · refine sz10 ?_
          rw [List.length_append, List.length_map, List.length_singleton, bytesV_len]
          omega
        · have bt2 : Bt fo Hh (upd Hh fo (.lst (acc.map V.int ++ [V.int ((Rust.step W (Zn70Neutral.bytesOf x)).2.length : Int)] ++ bytesV (Rust.step W (Zn70Neutral.bytesOf x)).2))) := (Bt.of (Ex.refl Hh)).upd
          have hDh := (hDf.mono xh).bt (xh _ _ hff) hfM' bt2
          refine s_asg (ev_var (v := .int (((flat done).length + 2 + x.length : Nat) : Int)) rfl) fun Hi xi => ?_
          refine ⟨done ++ [x], (Rust.step W (Zn70Neutral.bytesOf x)).1, M', acc ++ (((Rust.step W (Zn70Neutral.bytesOf x)).2.length : Int) :: Zn70Neutral.numbersOf (Rust.step W (Zn70Neutral.bytesOf x)).2), left', some (.int (((flat done).length + 2 + x.length : Nat) : Int)), some (.ref p), by rw [hxs]; simp, ?_, (Ex.mut (xHf.trans xh) hfn).trans xi, hDh.mono xi, ((hAf.ex xh).upd).ex xi, hMn', hfM', hfn, xi _ _ ?_, ?_, hg'⟩
          · rw [f3]
            rfl
          · rw [upd_same, List.map_append, List.map_cons, nums_map, List.append_assoc]
            rfl
          · rw [ho, List.append_assoc]
            rfl
    · have hge := of_decide_eq_false hb
      have hrest : rest = [] := by
        cases rest with
        | nil => rfl
        | cons x rest =>
          obtain ⟨f1, f2, f3, f4⟩ := flat_at (done := done) (rest := rest) (x := x)
          rw [← hnl] at f4
          omega
      subst hrest
      have e : outs R7239g.Spec.World.start xs = acc := by rw [ho]; exact List.append_nil _
      rw [e] at q
      exact s_ret (ev_var (v := .ref fo) rfl) fun Hb xb => q Hb fo (xb _ _ (xa _ _ hf))
end
end Sl
/-! ## SlEnd -/
namespace Sl
open PySem PySem.Spec PyProof.Rows L2
open PySem.W (WData Codec OpenSpec Well WellAll ReadsW ReadsAllW)
theorem walk {d : DefRec} (hdn : d.name = "answers") (hwell : R.wellSaid = true) (hr : Room 12 callerA) (hdf : d.params.defaults = []) : PySem.W.WalkOS qv names (PySem.W.XL qv []) hookS.says R d [] (fun f vs => PySem.call f vs) := by
  intro w s₀ s₁ mg mb G Y fa o pm cd doc dV kV ho hd hcd hD hmg hg args vals as hpre hlay hrd hwl hlo
  obtain ⟨a, e1, e2⟩ := PySem.W.os_pre_some hpre
  obtain ⟨e3, hwi⟩ := Codec.encAll_of_decAll R.args args a e1
  subst e3
  obtain ⟨K, KX, hs⟩ := Y
  have T : Tx w K mg := ⟨hs, ⟨_, KX, G.T.g⟩⟩
  have hmg2 : mg "answers" = some (.ref fa) := by rw [← hdn]; exact hmg
  have ef : fa = He.ga K "answers" := Value.ref.inj (Option.some.inj (hmg2.symm.trans T.g_answers))
  subst ef
  have hb : ∀ (s : Shared) (us : List Value), us.length = (["calls"] : List Str).length → BindsTo s (fdOf K (He.ga K "answers")) ⟨us, []⟩ ((["calls"] : List Str).zip us) := T.F_answers.bindsA fun _ _ _ _ _ _ us hl => match us, hl with | [_], _ => rfl
  refine PySem.W.enter_call (codeAny_mono (spec_call (R := []) (cl := classAt s₀.heap) (d0 := R.ret.enc (Codec.app R.args R.f a)) KX G.T.g G.T.b G.T.builtins G.T.nolimit hg hwl (pl_encAll _ _) (layable_weight hlay) hr (fun base _ _ => ok_answers (P := R.prog) (base := base) T) hb (by rw [encAll_len]; rfl)
    (fun H xs hO hS => ?_) fun H e s' z => z) fun r' s' hq => ?_)
  · cases hS with
    | cons h1 h2 =>
      cases h2
      cases h1 with
      | lst hs ha =>
        have e := L2.ints_dw a.1 _ ha
        subst e
        have q : ((Codec.inLen 0 61000 a.1 && a.1.all (Codec.inInt 0 65535)) && true) = true := hwi
        rw [Bool.and_eq_true, Bool.and_eq_true] at q
        exact ⟨_, a.1, rfl, hs, e2, (Codec.inNat_iff.mp q.1.1).2, fun H' p hp => .lst (L2.SqL.of hp) (L2.dw_ints _)⟩
  · obtain ⟨u, as', rfl, h1, h2, h3, h4⟩ := hq
    exact ⟨.inl ⟨u, _, as', rfl, fun _ => rfl, h1, (OpenSpec.post_iff hwell hwi _ _).mpr rfl, fun z => Bool.noConfusion (show false = true from z)⟩, h2, h3, h4⟩
end Sl
open PySem PySem.W PyProof.Rows
set_option maxRecDepth 100000 in
set_option maxHeartbeats 8000000 in
theorem PySem.Challenge.cw_scannedlogins_s01_answers_holds : PySem.Challenge.rw_scannedlogins_s01_answers.Holds := by
  w_on
  have k1 : PySem.Challenge.rw_scannedlogins_s01_answers.wellSaid = true := by decide +kernel
  refine HandSHeadRun.head_spec (r := PySem.Challenge.rw_scannedlogins_s01_answers) (q := Sl.qv) (H := Sl.hookS) (ob := Sl.ob) (M := 9000) (loose := Sl.names) (kwd := []) Sl.ob_eq (by kernel_rfl) (fun s => by kernel_rfl) Sl.run (by rfl) (by rfl) (by rfl) os_shapes k1 (by decide +kernel) ⟨rfl, rfl, rfl, rfl, rfl, by decide +kernel⟩ ?hw (Sl.walk rfl k1 ⟨rfl, by decide, by decide⟩ rfl)
  exact ⟨[.list [.int 0, .int 12, .int 0, .int 0, .int 1, .int 4, .int 0, .int 0, .int 0, .int 0, .int 0, .int 0, .int 0, .int 0]], by decide +kernel, by decide +kernel⟩
